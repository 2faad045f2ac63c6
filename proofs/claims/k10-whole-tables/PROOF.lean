import PyProof.Rows.All
import Wide.All
import OpenK.AllK
import Wide.FinOn
import HandS.ForMost
import HandS.Zip
import KE.GoesEnum
import KE.KDictZip
import HandS.Defaults
import HandS.OwnEq
import HandS.Star
import HandS.TupAny
import HandS.IsInst
import HandS.Codes
import KE.KFmtOwn
import HandS.SortKw
import HandS.EndTab
import KE.SortKeyHeap
import KE.SortLaws
import HandS.Conv
import HandS.Dict
import HandS.Wide
import KE.KNestM
import PySem.Challenge.RW_onlyanswer_k10_whole_tables_by_signs
set_option linter.all false
namespace Ow
/-! ### the determinant by the first column, as the law takes it -/
def rest (n : Nat) (m : List (List Int)) (i : Nat) : List (List Int) := ((List.range n).filter fun k => decide (k ≠ i)).map fun k => (m.getD k []).drop 1
def lead (m : List (List Int)) (i : Nat) : Int := (m.getD i []).getD 0 0
def sgnd (m : List (List Int)) (i : Nat) : Int := if i % 2 = 0 then lead m i else -lead m i
def sumTo (f : Nat → Int) : Nat → Int
  | 0 => 0
  | n + 1 => sumTo f n + f n
def det : Nat → List (List Int) → Int
  | 0, _ => 1
  | n + 1, m => sumTo (fun i => sgnd m i * det n (rest (n + 1) m i)) (n + 1)
def B (x : Int) : Prop := -1 ≤ x ∧ x ≤ 1
theorem B.mul {x y : Int} (h : B x) (g : B y) : B (x * y) := by
  obtain ⟨h1, h2⟩ := h
  obtain ⟨g1, g2⟩ := g
  have e : x = -1 ∨ x = 0 ∨ x = 1 := by omega
  unfold B
  rcases e with e | e | e <;> subst e <;> omega
theorem det1_eq {a00 : Int} : det 1 [[a00]] = a00 := by
  show 0 + a00 * 1 = a00
  omega
theorem det2_st {a00 a01 a10 a11 : Int} : det 2 [[a00, a01], [a10, a11]] = 0 + (a00) * det 1 [[a11]] + (-a10) * det 1 [[a01]] := rfl
theorem det2_eq {a00 a01 a10 a11 : Int} : det 2 [[a00, a01], [a10, a11]] = (a00) * ((a11) * (1)) + (-a10) * ((a01) * (1)) := by
  rw [det2_st]
  simp only [det1_eq]
  grind
theorem det3_st {a00 a01 a02 a10 a11 a12 a20 a21 a22 : Int} : det 3 [[a00, a01, a02], [a10, a11, a12], [a20, a21, a22]] = 0 + (a00) * det 2 [[a11, a12], [a21, a22]] + (-a10) * det 2 [[a01, a02], [a21, a22]] + (a20) * det 2 [[a01, a02], [a11, a12]] := rfl
theorem det3_eq {a00 a01 a02 a10 a11 a12 a20 a21 a22 : Int} : det 3 [[a00, a01, a02], [a10, a11, a12], [a20, a21, a22]] = (a00) * ((a11) * ((a22) * (1)) + (-a21) * ((a12) * (1))) + (-a10) * ((a01) * ((a22) * (1)) + (-a21) * ((a02) * (1))) + (a20) * ((a01) * ((a12) * (1)) + (-a11) * ((a02) * (1))) := by
  rw [det3_st]
  simp only [det2_eq]
  grind
theorem det4_st {a00 a01 a02 a03 a10 a11 a12 a13 a20 a21 a22 a23 a30 a31 a32 a33 : Int} : det 4 [[a00, a01, a02, a03], [a10, a11, a12, a13], [a20, a21, a22, a23], [a30, a31, a32, a33]] = 0 + (a00) * det 3 [[a11, a12, a13], [a21, a22, a23], [a31, a32, a33]] + (-a10) * det 3 [[a01, a02, a03], [a21, a22, a23], [a31, a32, a33]] + (a20) * det 3 [[a01, a02, a03], [a11, a12, a13], [a31, a32, a33]] + (-a30) * det 3 [[a01, a02, a03], [a11, a12, a13], [a21, a22, a23]] := rfl
theorem det4_eq {a00 a01 a02 a03 a10 a11 a12 a13 a20 a21 a22 a23 a30 a31 a32 a33 : Int} : det 4 [[a00, a01, a02, a03], [a10, a11, a12, a13], [a20, a21, a22, a23], [a30, a31, a32, a33]] = (a00) * ((a11) * ((a22) * ((a33) * (1)) + (-a32) * ((a23) * (1))) + (-a21) * ((a12) * ((a33) * (1)) + (-a32) * ((a13) * (1))) + (a31) * ((a12) * ((a23) * (1)) + (-a22) * ((a13) * (1)))) + (-a10) * ((a01) * ((a22) * ((a33) * (1)) + (-a32) * ((a23) * (1))) + (-a21) * ((a02) * ((a33) * (1)) + (-a32) * ((a03) * (1))) + (a31) * ((a02) * ((a23) * (1)) + (-a22) * ((a03) * (1)))) + (a20) * ((a01) * ((a12) * ((a33) * (1)) + (-a32) * ((a13) * (1))) + (-a11) * ((a02) * ((a33) * (1)) + (-a32) * ((a03) * (1))) + (a31) * ((a02) * ((a13) * (1)) + (-a12) * ((a03) * (1)))) + (-a30) * ((a01) * ((a12) * ((a23) * (1)) + (-a22) * ((a13) * (1))) + (-a11) * ((a02) * ((a23) * (1)) + (-a22) * ((a03) * (1))) + (a21) * ((a02) * ((a13) * (1)) + (-a12) * ((a03) * (1)))) := by
  rw [det4_st]
  simp only [det3_eq]
  grind
theorem pos1 {a00 : Int} (h0 : 0 < a00) : 0 < det 1 [[a00]] := by
  have t0 : 0 < a00 := h0
  have e : det 1 [[a00]] = (a00) := by
    rw [det1_eq]
  rw [e]
  generalize a00 = x0 at t0 ⊢
  omega
theorem pos2 {a00 a01 a10 a11 : Int} (h0 : 0 < a00) (h1 : 0 < a11) (h01 : 0 ≤ -(a01*a10)) : 0 < det 2 [[a00, a01], [a10, a11]] := by
  have t0 : 0 < a00 * a11 := (Int.mul_pos h0 h1)
  have t1 : 0 ≤ (-(a01*a10)) := h01
  have e : det 2 [[a00, a01], [a10, a11]] = (a00 * a11) + ((-(a01*a10))) := by
    rw [det2_eq]
    grind
  rw [e]
  generalize a00 * a11 = x0 at t0 ⊢
  generalize (-(a01*a10)) = x1 at t1 ⊢
  omega
theorem pos3 {a00 a01 a02 a10 a11 a12 a20 a21 a22 : Int} (h0 : 0 < a00) (h1 : 0 < a11) (h2 : 0 < a22) (h01 : 0 ≤ -(a01*a10)) (h02 : 0 ≤ -(a02*a20)) (h12 : 0 ≤ -(a12*a21)) (h012 : 0 ≤ a01*a12*a20) (h021 : 0 ≤ a02*a21*a10) : 0 < det 3 [[a00, a01, a02], [a10, a11, a12], [a20, a21, a22]] := by
  have t0 : 0 < a00 * a11 * a22 := (Int.mul_pos (Int.mul_pos h0 h1) h2)
  have t1 : 0 ≤ (-(a12*a21)) * a00 := (Int.mul_nonneg h12 (Int.le_of_lt h0))
  have t2 : 0 ≤ (-(a01*a10)) * a22 := (Int.mul_nonneg h01 (Int.le_of_lt h2))
  have t3 : 0 ≤ (a01*a12*a20) := h012
  have t4 : 0 ≤ (a02*a21*a10) := h021
  have t5 : 0 ≤ (-(a02*a20)) * a11 := (Int.mul_nonneg h02 (Int.le_of_lt h1))
  have e : det 3 [[a00, a01, a02], [a10, a11, a12], [a20, a21, a22]] = (a00 * a11 * a22) + ((-(a12*a21)) * a00) + ((-(a01*a10)) * a22) + ((a01*a12*a20)) + ((a02*a21*a10)) + ((-(a02*a20)) * a11) := by
    rw [det3_eq]
    grind
  rw [e]
  generalize a00 * a11 * a22 = x0 at t0 ⊢
  generalize (-(a12*a21)) * a00 = x1 at t1 ⊢
  generalize (-(a01*a10)) * a22 = x2 at t2 ⊢
  generalize (a01*a12*a20) = x3 at t3 ⊢
  generalize (a02*a21*a10) = x4 at t4 ⊢
  generalize (-(a02*a20)) * a11 = x5 at t5 ⊢
  omega
theorem pos4 {a00 a01 a02 a03 a10 a11 a12 a13 a20 a21 a22 a23 a30 a31 a32 a33 : Int} (h0 : 0 < a00) (h1 : 0 < a11) (h2 : 0 < a22) (h3 : 0 < a33) (h01 : 0 ≤ -(a01*a10)) (h02 : 0 ≤ -(a02*a20)) (h03 : 0 ≤ -(a03*a30)) (h12 : 0 ≤ -(a12*a21)) (h13 : 0 ≤ -(a13*a31)) (h23 : 0 ≤ -(a23*a32)) (h012 : 0 ≤ a01*a12*a20) (h013 : 0 ≤ a01*a13*a30) (h021 : 0 ≤ a02*a21*a10) (h023 : 0 ≤ a02*a23*a30) (h031 : 0 ≤ a03*a31*a10) (h032 : 0 ≤ a03*a32*a20) (h123 : 0 ≤ a12*a23*a31) (h132 : 0 ≤ a13*a32*a21) (h0123 : 0 ≤ -(a01*a12*a23*a30)) (h0132 : 0 ≤ -(a01*a13*a32*a20)) (h0213 : 0 ≤ -(a02*a21*a13*a30)) (h0231 : 0 ≤ -(a02*a23*a31*a10)) (h0312 : 0 ≤ -(a03*a31*a12*a20)) (h0321 : 0 ≤ -(a03*a32*a21*a10)) : 0 < det 4 [[a00, a01, a02, a03], [a10, a11, a12, a13], [a20, a21, a22, a23], [a30, a31, a32, a33]] := by
  have t0 : 0 < a00 * a11 * a22 * a33 := (Int.mul_pos (Int.mul_pos (Int.mul_pos h0 h1) h2) h3)
  have t1 : 0 ≤ (-(a23*a32)) * a00 * a11 := (Int.mul_nonneg (Int.mul_nonneg h23 (Int.le_of_lt h0)) (Int.le_of_lt h1))
  have t2 : 0 ≤ (-(a12*a21)) * a00 * a33 := (Int.mul_nonneg (Int.mul_nonneg h12 (Int.le_of_lt h0)) (Int.le_of_lt h3))
  have t3 : 0 ≤ (a12*a23*a31) * a00 := (Int.mul_nonneg h123 (Int.le_of_lt h0))
  have t4 : 0 ≤ (a13*a32*a21) * a00 := (Int.mul_nonneg h132 (Int.le_of_lt h0))
  have t5 : 0 ≤ (-(a13*a31)) * a00 * a22 := (Int.mul_nonneg (Int.mul_nonneg h13 (Int.le_of_lt h0)) (Int.le_of_lt h2))
  have t6 : 0 ≤ (-(a01*a10)) * a22 * a33 := (Int.mul_nonneg (Int.mul_nonneg h01 (Int.le_of_lt h2)) (Int.le_of_lt h3))
  have t7 : 0 ≤ (-(a01*a10)) * (-(a23*a32)) := (Int.mul_nonneg h01 h23)
  have t8 : 0 ≤ (a01*a12*a20) * a33 := (Int.mul_nonneg h012 (Int.le_of_lt h3))
  have t9 : 0 ≤ (-(a01*a12*a23*a30)) := h0123
  have t10 : 0 ≤ (-(a01*a13*a32*a20)) := h0132
  have t11 : 0 ≤ (a01*a13*a30) * a22 := (Int.mul_nonneg h013 (Int.le_of_lt h2))
  have t12 : 0 ≤ (a02*a21*a10) * a33 := (Int.mul_nonneg h021 (Int.le_of_lt h3))
  have t13 : 0 ≤ (-(a02*a23*a31*a10)) := h0231
  have t14 : 0 ≤ (-(a02*a20)) * a11 * a33 := (Int.mul_nonneg (Int.mul_nonneg h02 (Int.le_of_lt h1)) (Int.le_of_lt h3))
  have t15 : 0 ≤ (a02*a23*a30) * a11 := (Int.mul_nonneg h023 (Int.le_of_lt h1))
  have t16 : 0 ≤ (-(a02*a20)) * (-(a13*a31)) := (Int.mul_nonneg h02 h13)
  have t17 : 0 ≤ (-(a02*a21*a13*a30)) := h0213
  have t18 : 0 ≤ (-(a03*a32*a21*a10)) := h0321
  have t19 : 0 ≤ (a03*a31*a10) * a22 := (Int.mul_nonneg h031 (Int.le_of_lt h2))
  have t20 : 0 ≤ (a03*a32*a20) * a11 := (Int.mul_nonneg h032 (Int.le_of_lt h1))
  have t21 : 0 ≤ (-(a03*a30)) * a11 * a22 := (Int.mul_nonneg (Int.mul_nonneg h03 (Int.le_of_lt h1)) (Int.le_of_lt h2))
  have t22 : 0 ≤ (-(a03*a31*a12*a20)) := h0312
  have t23 : 0 ≤ (-(a03*a30)) * (-(a12*a21)) := (Int.mul_nonneg h03 h12)
  have e : det 4 [[a00, a01, a02, a03], [a10, a11, a12, a13], [a20, a21, a22, a23], [a30, a31, a32, a33]] = (a00 * a11 * a22 * a33) + ((-(a23*a32)) * a00 * a11) + ((-(a12*a21)) * a00 * a33) + ((a12*a23*a31) * a00) + ((a13*a32*a21) * a00) + ((-(a13*a31)) * a00 * a22) + ((-(a01*a10)) * a22 * a33) + ((-(a01*a10)) * (-(a23*a32))) + ((a01*a12*a20) * a33) + ((-(a01*a12*a23*a30))) + ((-(a01*a13*a32*a20))) + ((a01*a13*a30) * a22) + ((a02*a21*a10) * a33) + ((-(a02*a23*a31*a10))) + ((-(a02*a20)) * a11 * a33) + ((a02*a23*a30) * a11) + ((-(a02*a20)) * (-(a13*a31))) + ((-(a02*a21*a13*a30))) + ((-(a03*a32*a21*a10))) + ((a03*a31*a10) * a22) + ((a03*a32*a20) * a11) + ((-(a03*a30)) * a11 * a22) + ((-(a03*a31*a12*a20))) + ((-(a03*a30)) * (-(a12*a21))) := by
    rw [det4_eq]
    grind
  rw [e]
  generalize a00 * a11 * a22 * a33 = x0 at t0 ⊢
  generalize (-(a23*a32)) * a00 * a11 = x1 at t1 ⊢
  generalize (-(a12*a21)) * a00 * a33 = x2 at t2 ⊢
  generalize (a12*a23*a31) * a00 = x3 at t3 ⊢
  generalize (a13*a32*a21) * a00 = x4 at t4 ⊢
  generalize (-(a13*a31)) * a00 * a22 = x5 at t5 ⊢
  generalize (-(a01*a10)) * a22 * a33 = x6 at t6 ⊢
  generalize (-(a01*a10)) * (-(a23*a32)) = x7 at t7 ⊢
  generalize (a01*a12*a20) * a33 = x8 at t8 ⊢
  generalize (-(a01*a12*a23*a30)) = x9 at t9 ⊢
  generalize (-(a01*a13*a32*a20)) = x10 at t10 ⊢
  generalize (a01*a13*a30) * a22 = x11 at t11 ⊢
  generalize (a02*a21*a10) * a33 = x12 at t12 ⊢
  generalize (-(a02*a23*a31*a10)) = x13 at t13 ⊢
  generalize (-(a02*a20)) * a11 * a33 = x14 at t14 ⊢
  generalize (a02*a23*a30) * a11 = x15 at t15 ⊢
  generalize (-(a02*a20)) * (-(a13*a31)) = x16 at t16 ⊢
  generalize (-(a02*a21*a13*a30)) = x17 at t17 ⊢
  generalize (-(a03*a32*a21*a10)) = x18 at t18 ⊢
  generalize (a03*a31*a10) * a22 = x19 at t19 ⊢
  generalize (a03*a32*a20) * a11 = x20 at t20 ⊢
  generalize (-(a03*a30)) * a11 * a22 = x21 at t21 ⊢
  generalize (-(a03*a31*a12*a20)) = x22 at t22 ⊢
  generalize (-(a03*a30)) * (-(a12*a21)) = x23 at t23 ⊢
  omega
theorem bad1_0 {a00 : Int} (b00 : B a00) (h : a00 ≤ 0) : det 1 [[a00 * 1000]] ≤ 0 := by
  have t0 : B (a00) := b00
  have e : det 1 [[a00 * 1000]] = 1000 * (a00) := by
    rw [det1_eq]
    grind
  rw [e]
  unfold B at t0
  generalize a00 = x0 at t0 h ⊢
  omega
theorem bad2_01 {a00 a01 a10 a11 : Int} (b00 : B a00) (b01 : B a01) (b10 : B a10) (b11 : B a11) (h : -(a01*a10) < 0) : det 2 [[a00 * 1, a01 * 1000], [a10 * 1000, a11 * 1]] ≤ 0 := by
  have t0 : B (a00*a11) := (b00.mul b11)
  have t1 : B (a01*a10) := (b01.mul b10)
  have e : det 2 [[a00 * 1, a01 * 1000], [a10 * 1000, a11 * 1]] = 1 * (a00*a11) + (-1000000) * (a01*a10) := by
    rw [det2_eq]
    grind
  rw [e]
  unfold B at t0 t1
  generalize a00*a11 = x0 at t0 h ⊢
  generalize a01*a10 = x1 at t1 h ⊢
  omega
theorem bad3_012 {a00 a01 a02 a10 a11 a12 a20 a21 a22 : Int} (b00 : B a00) (b01 : B a01) (b02 : B a02) (b10 : B a10) (b11 : B a11) (b12 : B a12) (b20 : B a20) (b21 : B a21) (b22 : B a22) (h : a01*a12*a20 < 0) : det 3 [[a00 * 1, a01 * 1000, a02 * 1], [a10 * 1, a11 * 1, a12 * 1000], [a20 * 1000, a21 * 1, a22 * 1]] ≤ 0 := by
  have t0 : B (a00*a11*a22) := ((b00.mul b11).mul b22)
  have t1 : B (a00*a12*a21) := ((b00.mul b12).mul b21)
  have t2 : B (a01*a10*a22) := ((b01.mul b10).mul b22)
  have t3 : B (a01*a12*a20) := ((b01.mul b12).mul b20)
  have t4 : B (a02*a10*a21) := ((b02.mul b10).mul b21)
  have t5 : B (a02*a11*a20) := ((b02.mul b11).mul b20)
  have e : det 3 [[a00 * 1, a01 * 1000, a02 * 1], [a10 * 1, a11 * 1, a12 * 1000], [a20 * 1000, a21 * 1, a22 * 1]] = 1 * (a00*a11*a22) + (-1000) * (a00*a12*a21) + (-1000) * (a01*a10*a22) + 1000000000 * (a01*a12*a20) + 1 * (a02*a10*a21) + (-1000) * (a02*a11*a20) := by
    rw [det3_eq]
    grind
  rw [e]
  unfold B at t0 t1 t2 t3 t4 t5
  generalize a00*a11*a22 = x0 at t0 h ⊢
  generalize a00*a12*a21 = x1 at t1 h ⊢
  generalize a01*a10*a22 = x2 at t2 h ⊢
  generalize a01*a12*a20 = x3 at t3 h ⊢
  generalize a02*a10*a21 = x4 at t4 h ⊢
  generalize a02*a11*a20 = x5 at t5 h ⊢
  omega
theorem bad3_021 {a00 a01 a02 a10 a11 a12 a20 a21 a22 : Int} (b00 : B a00) (b01 : B a01) (b02 : B a02) (b10 : B a10) (b11 : B a11) (b12 : B a12) (b20 : B a20) (b21 : B a21) (b22 : B a22) (h : a02*a21*a10 < 0) : det 3 [[a00 * 1, a01 * 1, a02 * 1000], [a10 * 1000, a11 * 1, a12 * 1], [a20 * 1, a21 * 1000, a22 * 1]] ≤ 0 := by
  have t0 : B (a00*a11*a22) := ((b00.mul b11).mul b22)
  have t1 : B (a00*a12*a21) := ((b00.mul b12).mul b21)
  have t2 : B (a01*a10*a22) := ((b01.mul b10).mul b22)
  have t3 : B (a01*a12*a20) := ((b01.mul b12).mul b20)
  have t4 : B (a02*a21*a10) := ((b02.mul b21).mul b10)
  have t5 : B (a02*a11*a20) := ((b02.mul b11).mul b20)
  have e : det 3 [[a00 * 1, a01 * 1, a02 * 1000], [a10 * 1000, a11 * 1, a12 * 1], [a20 * 1, a21 * 1000, a22 * 1]] = 1 * (a00*a11*a22) + (-1000) * (a00*a12*a21) + (-1000) * (a01*a10*a22) + 1 * (a01*a12*a20) + 1000000000 * (a02*a21*a10) + (-1000) * (a02*a11*a20) := by
    rw [det3_eq]
    grind
  rw [e]
  unfold B at t0 t1 t2 t3 t4 t5
  generalize a00*a11*a22 = x0 at t0 h ⊢
  generalize a00*a12*a21 = x1 at t1 h ⊢
  generalize a01*a10*a22 = x2 at t2 h ⊢
  generalize a01*a12*a20 = x3 at t3 h ⊢
  generalize a02*a21*a10 = x4 at t4 h ⊢
  generalize a02*a11*a20 = x5 at t5 h ⊢
  omega
theorem bad4_0123 {a00 a01 a02 a03 a10 a11 a12 a13 a20 a21 a22 a23 a30 a31 a32 a33 : Int} (b00 : B a00) (b01 : B a01) (b02 : B a02) (b03 : B a03) (b10 : B a10) (b11 : B a11) (b12 : B a12) (b13 : B a13) (b20 : B a20) (b21 : B a21) (b22 : B a22) (b23 : B a23) (b30 : B a30) (b31 : B a31) (b32 : B a32) (b33 : B a33) (h : -(a01*a12*a23*a30) < 0) : det 4 [[a00 * 1, a01 * 1000, a02 * 1, a03 * 1], [a10 * 1, a11 * 1, a12 * 1000, a13 * 1], [a20 * 1, a21 * 1, a22 * 1, a23 * 1000], [a30 * 1000, a31 * 1, a32 * 1, a33 * 1]] ≤ 0 := by
  have t0 : B (a00*a11*a22*a33) := (((b00.mul b11).mul b22).mul b33)
  have t1 : B (a00*a11*a23*a32) := (((b00.mul b11).mul b23).mul b32)
  have t2 : B (a00*a12*a21*a33) := (((b00.mul b12).mul b21).mul b33)
  have t3 : B (a00*a12*a23*a31) := (((b00.mul b12).mul b23).mul b31)
  have t4 : B (a00*a13*a21*a32) := (((b00.mul b13).mul b21).mul b32)
  have t5 : B (a00*a13*a22*a31) := (((b00.mul b13).mul b22).mul b31)
  have t6 : B (a01*a10*a22*a33) := (((b01.mul b10).mul b22).mul b33)
  have t7 : B (a01*a10*a23*a32) := (((b01.mul b10).mul b23).mul b32)
  have t8 : B (a01*a12*a20*a33) := (((b01.mul b12).mul b20).mul b33)
  have t9 : B (a01*a12*a23*a30) := (((b01.mul b12).mul b23).mul b30)
  have t10 : B (a01*a13*a20*a32) := (((b01.mul b13).mul b20).mul b32)
  have t11 : B (a01*a13*a22*a30) := (((b01.mul b13).mul b22).mul b30)
  have t12 : B (a02*a10*a21*a33) := (((b02.mul b10).mul b21).mul b33)
  have t13 : B (a02*a10*a23*a31) := (((b02.mul b10).mul b23).mul b31)
  have t14 : B (a02*a11*a20*a33) := (((b02.mul b11).mul b20).mul b33)
  have t15 : B (a02*a11*a23*a30) := (((b02.mul b11).mul b23).mul b30)
  have t16 : B (a02*a13*a20*a31) := (((b02.mul b13).mul b20).mul b31)
  have t17 : B (a02*a13*a21*a30) := (((b02.mul b13).mul b21).mul b30)
  have t18 : B (a03*a10*a21*a32) := (((b03.mul b10).mul b21).mul b32)
  have t19 : B (a03*a10*a22*a31) := (((b03.mul b10).mul b22).mul b31)
  have t20 : B (a03*a11*a20*a32) := (((b03.mul b11).mul b20).mul b32)
  have t21 : B (a03*a11*a22*a30) := (((b03.mul b11).mul b22).mul b30)
  have t22 : B (a03*a12*a20*a31) := (((b03.mul b12).mul b20).mul b31)
  have t23 : B (a03*a12*a21*a30) := (((b03.mul b12).mul b21).mul b30)
  have e : det 4 [[a00 * 1, a01 * 1000, a02 * 1, a03 * 1], [a10 * 1, a11 * 1, a12 * 1000, a13 * 1], [a20 * 1, a21 * 1, a22 * 1, a23 * 1000], [a30 * 1000, a31 * 1, a32 * 1, a33 * 1]] = 1 * (a00*a11*a22*a33) + (-1000) * (a00*a11*a23*a32) + (-1000) * (a00*a12*a21*a33) + 1000000 * (a00*a12*a23*a31) + 1 * (a00*a13*a21*a32) + (-1) * (a00*a13*a22*a31) + (-1000) * (a01*a10*a22*a33) + 1000000 * (a01*a10*a23*a32) + 1000000 * (a01*a12*a20*a33) + (-1000000000000) * (a01*a12*a23*a30) + (-1000) * (a01*a13*a20*a32) + 1000000 * (a01*a13*a22*a30) + 1 * (a02*a10*a21*a33) + (-1000) * (a02*a10*a23*a31) + (-1) * (a02*a11*a20*a33) + 1000000 * (a02*a11*a23*a30) + 1 * (a02*a13*a20*a31) + (-1000) * (a02*a13*a21*a30) + (-1) * (a03*a10*a21*a32) + 1 * (a03*a10*a22*a31) + 1 * (a03*a11*a20*a32) + (-1000) * (a03*a11*a22*a30) + (-1000) * (a03*a12*a20*a31) + 1000000 * (a03*a12*a21*a30) := by
    rw [det4_eq]
    grind
  rw [e]
  unfold B at t0 t1 t2 t3 t4 t5 t6 t7 t8 t9 t10 t11 t12 t13 t14 t15 t16 t17 t18 t19 t20 t21 t22 t23
  generalize a00*a11*a22*a33 = x0 at t0 h ⊢
  generalize a00*a11*a23*a32 = x1 at t1 h ⊢
  generalize a00*a12*a21*a33 = x2 at t2 h ⊢
  generalize a00*a12*a23*a31 = x3 at t3 h ⊢
  generalize a00*a13*a21*a32 = x4 at t4 h ⊢
  generalize a00*a13*a22*a31 = x5 at t5 h ⊢
  generalize a01*a10*a22*a33 = x6 at t6 h ⊢
  generalize a01*a10*a23*a32 = x7 at t7 h ⊢
  generalize a01*a12*a20*a33 = x8 at t8 h ⊢
  generalize a01*a12*a23*a30 = x9 at t9 h ⊢
  generalize a01*a13*a20*a32 = x10 at t10 h ⊢
  generalize a01*a13*a22*a30 = x11 at t11 h ⊢
  generalize a02*a10*a21*a33 = x12 at t12 h ⊢
  generalize a02*a10*a23*a31 = x13 at t13 h ⊢
  generalize a02*a11*a20*a33 = x14 at t14 h ⊢
  generalize a02*a11*a23*a30 = x15 at t15 h ⊢
  generalize a02*a13*a20*a31 = x16 at t16 h ⊢
  generalize a02*a13*a21*a30 = x17 at t17 h ⊢
  generalize a03*a10*a21*a32 = x18 at t18 h ⊢
  generalize a03*a10*a22*a31 = x19 at t19 h ⊢
  generalize a03*a11*a20*a32 = x20 at t20 h ⊢
  generalize a03*a11*a22*a30 = x21 at t21 h ⊢
  generalize a03*a12*a20*a31 = x22 at t22 h ⊢
  generalize a03*a12*a21*a30 = x23 at t23 h ⊢
  omega
theorem bad4_0132 {a00 a01 a02 a03 a10 a11 a12 a13 a20 a21 a22 a23 a30 a31 a32 a33 : Int} (b00 : B a00) (b01 : B a01) (b02 : B a02) (b03 : B a03) (b10 : B a10) (b11 : B a11) (b12 : B a12) (b13 : B a13) (b20 : B a20) (b21 : B a21) (b22 : B a22) (b23 : B a23) (b30 : B a30) (b31 : B a31) (b32 : B a32) (b33 : B a33) (h : -(a01*a13*a32*a20) < 0) : det 4 [[a00 * 1, a01 * 1000, a02 * 1, a03 * 1], [a10 * 1, a11 * 1, a12 * 1, a13 * 1000], [a20 * 1000, a21 * 1, a22 * 1, a23 * 1], [a30 * 1, a31 * 1, a32 * 1000, a33 * 1]] ≤ 0 := by
  have t0 : B (a00*a11*a22*a33) := (((b00.mul b11).mul b22).mul b33)
  have t1 : B (a00*a11*a23*a32) := (((b00.mul b11).mul b23).mul b32)
  have t2 : B (a00*a12*a21*a33) := (((b00.mul b12).mul b21).mul b33)
  have t3 : B (a00*a12*a23*a31) := (((b00.mul b12).mul b23).mul b31)
  have t4 : B (a00*a13*a21*a32) := (((b00.mul b13).mul b21).mul b32)
  have t5 : B (a00*a13*a22*a31) := (((b00.mul b13).mul b22).mul b31)
  have t6 : B (a01*a10*a22*a33) := (((b01.mul b10).mul b22).mul b33)
  have t7 : B (a01*a10*a23*a32) := (((b01.mul b10).mul b23).mul b32)
  have t8 : B (a01*a12*a20*a33) := (((b01.mul b12).mul b20).mul b33)
  have t9 : B (a01*a12*a23*a30) := (((b01.mul b12).mul b23).mul b30)
  have t10 : B (a01*a13*a32*a20) := (((b01.mul b13).mul b32).mul b20)
  have t11 : B (a01*a13*a22*a30) := (((b01.mul b13).mul b22).mul b30)
  have t12 : B (a02*a10*a21*a33) := (((b02.mul b10).mul b21).mul b33)
  have t13 : B (a02*a10*a23*a31) := (((b02.mul b10).mul b23).mul b31)
  have t14 : B (a02*a11*a20*a33) := (((b02.mul b11).mul b20).mul b33)
  have t15 : B (a02*a11*a23*a30) := (((b02.mul b11).mul b23).mul b30)
  have t16 : B (a02*a13*a20*a31) := (((b02.mul b13).mul b20).mul b31)
  have t17 : B (a02*a13*a21*a30) := (((b02.mul b13).mul b21).mul b30)
  have t18 : B (a03*a10*a21*a32) := (((b03.mul b10).mul b21).mul b32)
  have t19 : B (a03*a10*a22*a31) := (((b03.mul b10).mul b22).mul b31)
  have t20 : B (a03*a11*a20*a32) := (((b03.mul b11).mul b20).mul b32)
  have t21 : B (a03*a11*a22*a30) := (((b03.mul b11).mul b22).mul b30)
  have t22 : B (a03*a12*a20*a31) := (((b03.mul b12).mul b20).mul b31)
  have t23 : B (a03*a12*a21*a30) := (((b03.mul b12).mul b21).mul b30)
  have e : det 4 [[a00 * 1, a01 * 1000, a02 * 1, a03 * 1], [a10 * 1, a11 * 1, a12 * 1, a13 * 1000], [a20 * 1000, a21 * 1, a22 * 1, a23 * 1], [a30 * 1, a31 * 1, a32 * 1000, a33 * 1]] = 1 * (a00*a11*a22*a33) + (-1000) * (a00*a11*a23*a32) + (-1) * (a00*a12*a21*a33) + 1 * (a00*a12*a23*a31) + 1000000 * (a00*a13*a21*a32) + (-1000) * (a00*a13*a22*a31) + (-1000) * (a01*a10*a22*a33) + 1000000 * (a01*a10*a23*a32) + 1000000 * (a01*a12*a20*a33) + (-1000) * (a01*a12*a23*a30) + (-1000000000000) * (a01*a13*a32*a20) + 1000000 * (a01*a13*a22*a30) + 1 * (a02*a10*a21*a33) + (-1) * (a02*a10*a23*a31) + (-1000) * (a02*a11*a20*a33) + 1 * (a02*a11*a23*a30) + 1000000 * (a02*a13*a20*a31) + (-1000) * (a02*a13*a21*a30) + (-1000) * (a03*a10*a21*a32) + 1 * (a03*a10*a22*a31) + 1000000 * (a03*a11*a20*a32) + (-1) * (a03*a11*a22*a30) + (-1000) * (a03*a12*a20*a31) + 1 * (a03*a12*a21*a30) := by
    rw [det4_eq]
    grind
  rw [e]
  unfold B at t0 t1 t2 t3 t4 t5 t6 t7 t8 t9 t10 t11 t12 t13 t14 t15 t16 t17 t18 t19 t20 t21 t22 t23
  generalize a00*a11*a22*a33 = x0 at t0 h ⊢
  generalize a00*a11*a23*a32 = x1 at t1 h ⊢
  generalize a00*a12*a21*a33 = x2 at t2 h ⊢
  generalize a00*a12*a23*a31 = x3 at t3 h ⊢
  generalize a00*a13*a21*a32 = x4 at t4 h ⊢
  generalize a00*a13*a22*a31 = x5 at t5 h ⊢
  generalize a01*a10*a22*a33 = x6 at t6 h ⊢
  generalize a01*a10*a23*a32 = x7 at t7 h ⊢
  generalize a01*a12*a20*a33 = x8 at t8 h ⊢
  generalize a01*a12*a23*a30 = x9 at t9 h ⊢
  generalize a01*a13*a32*a20 = x10 at t10 h ⊢
  generalize a01*a13*a22*a30 = x11 at t11 h ⊢
  generalize a02*a10*a21*a33 = x12 at t12 h ⊢
  generalize a02*a10*a23*a31 = x13 at t13 h ⊢
  generalize a02*a11*a20*a33 = x14 at t14 h ⊢
  generalize a02*a11*a23*a30 = x15 at t15 h ⊢
  generalize a02*a13*a20*a31 = x16 at t16 h ⊢
  generalize a02*a13*a21*a30 = x17 at t17 h ⊢
  generalize a03*a10*a21*a32 = x18 at t18 h ⊢
  generalize a03*a10*a22*a31 = x19 at t19 h ⊢
  generalize a03*a11*a20*a32 = x20 at t20 h ⊢
  generalize a03*a11*a22*a30 = x21 at t21 h ⊢
  generalize a03*a12*a20*a31 = x22 at t22 h ⊢
  generalize a03*a12*a21*a30 = x23 at t23 h ⊢
  omega
theorem bad4_0213 {a00 a01 a02 a03 a10 a11 a12 a13 a20 a21 a22 a23 a30 a31 a32 a33 : Int} (b00 : B a00) (b01 : B a01) (b02 : B a02) (b03 : B a03) (b10 : B a10) (b11 : B a11) (b12 : B a12) (b13 : B a13) (b20 : B a20) (b21 : B a21) (b22 : B a22) (b23 : B a23) (b30 : B a30) (b31 : B a31) (b32 : B a32) (b33 : B a33) (h : -(a02*a21*a13*a30) < 0) : det 4 [[a00 * 1, a01 * 1, a02 * 1000, a03 * 1], [a10 * 1, a11 * 1, a12 * 1, a13 * 1000], [a20 * 1, a21 * 1000, a22 * 1, a23 * 1], [a30 * 1000, a31 * 1, a32 * 1, a33 * 1]] ≤ 0 := by
  have t0 : B (a00*a11*a22*a33) := (((b00.mul b11).mul b22).mul b33)
  have t1 : B (a00*a11*a23*a32) := (((b00.mul b11).mul b23).mul b32)
  have t2 : B (a00*a12*a21*a33) := (((b00.mul b12).mul b21).mul b33)
  have t3 : B (a00*a12*a23*a31) := (((b00.mul b12).mul b23).mul b31)
  have t4 : B (a00*a13*a21*a32) := (((b00.mul b13).mul b21).mul b32)
  have t5 : B (a00*a13*a22*a31) := (((b00.mul b13).mul b22).mul b31)
  have t6 : B (a01*a10*a22*a33) := (((b01.mul b10).mul b22).mul b33)
  have t7 : B (a01*a10*a23*a32) := (((b01.mul b10).mul b23).mul b32)
  have t8 : B (a01*a12*a20*a33) := (((b01.mul b12).mul b20).mul b33)
  have t9 : B (a01*a12*a23*a30) := (((b01.mul b12).mul b23).mul b30)
  have t10 : B (a01*a13*a20*a32) := (((b01.mul b13).mul b20).mul b32)
  have t11 : B (a01*a13*a22*a30) := (((b01.mul b13).mul b22).mul b30)
  have t12 : B (a02*a10*a21*a33) := (((b02.mul b10).mul b21).mul b33)
  have t13 : B (a02*a10*a23*a31) := (((b02.mul b10).mul b23).mul b31)
  have t14 : B (a02*a11*a20*a33) := (((b02.mul b11).mul b20).mul b33)
  have t15 : B (a02*a11*a23*a30) := (((b02.mul b11).mul b23).mul b30)
  have t16 : B (a02*a13*a20*a31) := (((b02.mul b13).mul b20).mul b31)
  have t17 : B (a02*a21*a13*a30) := (((b02.mul b21).mul b13).mul b30)
  have t18 : B (a03*a10*a21*a32) := (((b03.mul b10).mul b21).mul b32)
  have t19 : B (a03*a10*a22*a31) := (((b03.mul b10).mul b22).mul b31)
  have t20 : B (a03*a11*a20*a32) := (((b03.mul b11).mul b20).mul b32)
  have t21 : B (a03*a11*a22*a30) := (((b03.mul b11).mul b22).mul b30)
  have t22 : B (a03*a12*a20*a31) := (((b03.mul b12).mul b20).mul b31)
  have t23 : B (a03*a12*a21*a30) := (((b03.mul b12).mul b21).mul b30)
  have e : det 4 [[a00 * 1, a01 * 1, a02 * 1000, a03 * 1], [a10 * 1, a11 * 1, a12 * 1, a13 * 1000], [a20 * 1, a21 * 1000, a22 * 1, a23 * 1], [a30 * 1000, a31 * 1, a32 * 1, a33 * 1]] = 1 * (a00*a11*a22*a33) + (-1) * (a00*a11*a23*a32) + (-1000) * (a00*a12*a21*a33) + 1 * (a00*a12*a23*a31) + 1000000 * (a00*a13*a21*a32) + (-1000) * (a00*a13*a22*a31) + (-1) * (a01*a10*a22*a33) + 1 * (a01*a10*a23*a32) + 1 * (a01*a12*a20*a33) + (-1000) * (a01*a12*a23*a30) + (-1000) * (a01*a13*a20*a32) + 1000000 * (a01*a13*a22*a30) + 1000000 * (a02*a10*a21*a33) + (-1000) * (a02*a10*a23*a31) + (-1000) * (a02*a11*a20*a33) + 1000000 * (a02*a11*a23*a30) + 1000000 * (a02*a13*a20*a31) + (-1000000000000) * (a02*a21*a13*a30) + (-1000) * (a03*a10*a21*a32) + 1 * (a03*a10*a22*a31) + 1 * (a03*a11*a20*a32) + (-1000) * (a03*a11*a22*a30) + (-1) * (a03*a12*a20*a31) + 1000000 * (a03*a12*a21*a30) := by
    rw [det4_eq]
    grind
  rw [e]
  unfold B at t0 t1 t2 t3 t4 t5 t6 t7 t8 t9 t10 t11 t12 t13 t14 t15 t16 t17 t18 t19 t20 t21 t22 t23
  generalize a00*a11*a22*a33 = x0 at t0 h ⊢
  generalize a00*a11*a23*a32 = x1 at t1 h ⊢
  generalize a00*a12*a21*a33 = x2 at t2 h ⊢
  generalize a00*a12*a23*a31 = x3 at t3 h ⊢
  generalize a00*a13*a21*a32 = x4 at t4 h ⊢
  generalize a00*a13*a22*a31 = x5 at t5 h ⊢
  generalize a01*a10*a22*a33 = x6 at t6 h ⊢
  generalize a01*a10*a23*a32 = x7 at t7 h ⊢
  generalize a01*a12*a20*a33 = x8 at t8 h ⊢
  generalize a01*a12*a23*a30 = x9 at t9 h ⊢
  generalize a01*a13*a20*a32 = x10 at t10 h ⊢
  generalize a01*a13*a22*a30 = x11 at t11 h ⊢
  generalize a02*a10*a21*a33 = x12 at t12 h ⊢
  generalize a02*a10*a23*a31 = x13 at t13 h ⊢
  generalize a02*a11*a20*a33 = x14 at t14 h ⊢
  generalize a02*a11*a23*a30 = x15 at t15 h ⊢
  generalize a02*a13*a20*a31 = x16 at t16 h ⊢
  generalize a02*a21*a13*a30 = x17 at t17 h ⊢
  generalize a03*a10*a21*a32 = x18 at t18 h ⊢
  generalize a03*a10*a22*a31 = x19 at t19 h ⊢
  generalize a03*a11*a20*a32 = x20 at t20 h ⊢
  generalize a03*a11*a22*a30 = x21 at t21 h ⊢
  generalize a03*a12*a20*a31 = x22 at t22 h ⊢
  generalize a03*a12*a21*a30 = x23 at t23 h ⊢
  omega
theorem bad4_0231 {a00 a01 a02 a03 a10 a11 a12 a13 a20 a21 a22 a23 a30 a31 a32 a33 : Int} (b00 : B a00) (b01 : B a01) (b02 : B a02) (b03 : B a03) (b10 : B a10) (b11 : B a11) (b12 : B a12) (b13 : B a13) (b20 : B a20) (b21 : B a21) (b22 : B a22) (b23 : B a23) (b30 : B a30) (b31 : B a31) (b32 : B a32) (b33 : B a33) (h : -(a02*a23*a31*a10) < 0) : det 4 [[a00 * 1, a01 * 1, a02 * 1000, a03 * 1], [a10 * 1000, a11 * 1, a12 * 1, a13 * 1], [a20 * 1, a21 * 1, a22 * 1, a23 * 1000], [a30 * 1, a31 * 1000, a32 * 1, a33 * 1]] ≤ 0 := by
  have t0 : B (a00*a11*a22*a33) := (((b00.mul b11).mul b22).mul b33)
  have t1 : B (a00*a11*a23*a32) := (((b00.mul b11).mul b23).mul b32)
  have t2 : B (a00*a12*a21*a33) := (((b00.mul b12).mul b21).mul b33)
  have t3 : B (a00*a12*a23*a31) := (((b00.mul b12).mul b23).mul b31)
  have t4 : B (a00*a13*a21*a32) := (((b00.mul b13).mul b21).mul b32)
  have t5 : B (a00*a13*a22*a31) := (((b00.mul b13).mul b22).mul b31)
  have t6 : B (a01*a10*a22*a33) := (((b01.mul b10).mul b22).mul b33)
  have t7 : B (a01*a10*a23*a32) := (((b01.mul b10).mul b23).mul b32)
  have t8 : B (a01*a12*a20*a33) := (((b01.mul b12).mul b20).mul b33)
  have t9 : B (a01*a12*a23*a30) := (((b01.mul b12).mul b23).mul b30)
  have t10 : B (a01*a13*a20*a32) := (((b01.mul b13).mul b20).mul b32)
  have t11 : B (a01*a13*a22*a30) := (((b01.mul b13).mul b22).mul b30)
  have t12 : B (a02*a10*a21*a33) := (((b02.mul b10).mul b21).mul b33)
  have t13 : B (a02*a23*a31*a10) := (((b02.mul b23).mul b31).mul b10)
  have t14 : B (a02*a11*a20*a33) := (((b02.mul b11).mul b20).mul b33)
  have t15 : B (a02*a11*a23*a30) := (((b02.mul b11).mul b23).mul b30)
  have t16 : B (a02*a13*a20*a31) := (((b02.mul b13).mul b20).mul b31)
  have t17 : B (a02*a13*a21*a30) := (((b02.mul b13).mul b21).mul b30)
  have t18 : B (a03*a10*a21*a32) := (((b03.mul b10).mul b21).mul b32)
  have t19 : B (a03*a10*a22*a31) := (((b03.mul b10).mul b22).mul b31)
  have t20 : B (a03*a11*a20*a32) := (((b03.mul b11).mul b20).mul b32)
  have t21 : B (a03*a11*a22*a30) := (((b03.mul b11).mul b22).mul b30)
  have t22 : B (a03*a12*a20*a31) := (((b03.mul b12).mul b20).mul b31)
  have t23 : B (a03*a12*a21*a30) := (((b03.mul b12).mul b21).mul b30)
  have e : det 4 [[a00 * 1, a01 * 1, a02 * 1000, a03 * 1], [a10 * 1000, a11 * 1, a12 * 1, a13 * 1], [a20 * 1, a21 * 1, a22 * 1, a23 * 1000], [a30 * 1, a31 * 1000, a32 * 1, a33 * 1]] = 1 * (a00*a11*a22*a33) + (-1000) * (a00*a11*a23*a32) + (-1) * (a00*a12*a21*a33) + 1000000 * (a00*a12*a23*a31) + 1 * (a00*a13*a21*a32) + (-1000) * (a00*a13*a22*a31) + (-1000) * (a01*a10*a22*a33) + 1000000 * (a01*a10*a23*a32) + 1 * (a01*a12*a20*a33) + (-1000) * (a01*a12*a23*a30) + (-1) * (a01*a13*a20*a32) + 1 * (a01*a13*a22*a30) + 1000000 * (a02*a10*a21*a33) + (-1000000000000) * (a02*a23*a31*a10) + (-1000) * (a02*a11*a20*a33) + 1000000 * (a02*a11*a23*a30) + 1000000 * (a02*a13*a20*a31) + (-1000) * (a02*a13*a21*a30) + (-1000) * (a03*a10*a21*a32) + 1000000 * (a03*a10*a22*a31) + 1 * (a03*a11*a20*a32) + (-1) * (a03*a11*a22*a30) + (-1000) * (a03*a12*a20*a31) + 1 * (a03*a12*a21*a30) := by
    rw [det4_eq]
    grind
  rw [e]
  unfold B at t0 t1 t2 t3 t4 t5 t6 t7 t8 t9 t10 t11 t12 t13 t14 t15 t16 t17 t18 t19 t20 t21 t22 t23
  generalize a00*a11*a22*a33 = x0 at t0 h ⊢
  generalize a00*a11*a23*a32 = x1 at t1 h ⊢
  generalize a00*a12*a21*a33 = x2 at t2 h ⊢
  generalize a00*a12*a23*a31 = x3 at t3 h ⊢
  generalize a00*a13*a21*a32 = x4 at t4 h ⊢
  generalize a00*a13*a22*a31 = x5 at t5 h ⊢
  generalize a01*a10*a22*a33 = x6 at t6 h ⊢
  generalize a01*a10*a23*a32 = x7 at t7 h ⊢
  generalize a01*a12*a20*a33 = x8 at t8 h ⊢
  generalize a01*a12*a23*a30 = x9 at t9 h ⊢
  generalize a01*a13*a20*a32 = x10 at t10 h ⊢
  generalize a01*a13*a22*a30 = x11 at t11 h ⊢
  generalize a02*a10*a21*a33 = x12 at t12 h ⊢
  generalize a02*a23*a31*a10 = x13 at t13 h ⊢
  generalize a02*a11*a20*a33 = x14 at t14 h ⊢
  generalize a02*a11*a23*a30 = x15 at t15 h ⊢
  generalize a02*a13*a20*a31 = x16 at t16 h ⊢
  generalize a02*a13*a21*a30 = x17 at t17 h ⊢
  generalize a03*a10*a21*a32 = x18 at t18 h ⊢
  generalize a03*a10*a22*a31 = x19 at t19 h ⊢
  generalize a03*a11*a20*a32 = x20 at t20 h ⊢
  generalize a03*a11*a22*a30 = x21 at t21 h ⊢
  generalize a03*a12*a20*a31 = x22 at t22 h ⊢
  generalize a03*a12*a21*a30 = x23 at t23 h ⊢
  omega
theorem bad4_0312 {a00 a01 a02 a03 a10 a11 a12 a13 a20 a21 a22 a23 a30 a31 a32 a33 : Int} (b00 : B a00) (b01 : B a01) (b02 : B a02) (b03 : B a03) (b10 : B a10) (b11 : B a11) (b12 : B a12) (b13 : B a13) (b20 : B a20) (b21 : B a21) (b22 : B a22) (b23 : B a23) (b30 : B a30) (b31 : B a31) (b32 : B a32) (b33 : B a33) (h : -(a03*a31*a12*a20) < 0) : det 4 [[a00 * 1, a01 * 1, a02 * 1, a03 * 1000], [a10 * 1, a11 * 1, a12 * 1000, a13 * 1], [a20 * 1000, a21 * 1, a22 * 1, a23 * 1], [a30 * 1, a31 * 1000, a32 * 1, a33 * 1]] ≤ 0 := by
  have t0 : B (a00*a11*a22*a33) := (((b00.mul b11).mul b22).mul b33)
  have t1 : B (a00*a11*a23*a32) := (((b00.mul b11).mul b23).mul b32)
  have t2 : B (a00*a12*a21*a33) := (((b00.mul b12).mul b21).mul b33)
  have t3 : B (a00*a12*a23*a31) := (((b00.mul b12).mul b23).mul b31)
  have t4 : B (a00*a13*a21*a32) := (((b00.mul b13).mul b21).mul b32)
  have t5 : B (a00*a13*a22*a31) := (((b00.mul b13).mul b22).mul b31)
  have t6 : B (a01*a10*a22*a33) := (((b01.mul b10).mul b22).mul b33)
  have t7 : B (a01*a10*a23*a32) := (((b01.mul b10).mul b23).mul b32)
  have t8 : B (a01*a12*a20*a33) := (((b01.mul b12).mul b20).mul b33)
  have t9 : B (a01*a12*a23*a30) := (((b01.mul b12).mul b23).mul b30)
  have t10 : B (a01*a13*a20*a32) := (((b01.mul b13).mul b20).mul b32)
  have t11 : B (a01*a13*a22*a30) := (((b01.mul b13).mul b22).mul b30)
  have t12 : B (a02*a10*a21*a33) := (((b02.mul b10).mul b21).mul b33)
  have t13 : B (a02*a10*a23*a31) := (((b02.mul b10).mul b23).mul b31)
  have t14 : B (a02*a11*a20*a33) := (((b02.mul b11).mul b20).mul b33)
  have t15 : B (a02*a11*a23*a30) := (((b02.mul b11).mul b23).mul b30)
  have t16 : B (a02*a13*a20*a31) := (((b02.mul b13).mul b20).mul b31)
  have t17 : B (a02*a13*a21*a30) := (((b02.mul b13).mul b21).mul b30)
  have t18 : B (a03*a10*a21*a32) := (((b03.mul b10).mul b21).mul b32)
  have t19 : B (a03*a10*a22*a31) := (((b03.mul b10).mul b22).mul b31)
  have t20 : B (a03*a11*a20*a32) := (((b03.mul b11).mul b20).mul b32)
  have t21 : B (a03*a11*a22*a30) := (((b03.mul b11).mul b22).mul b30)
  have t22 : B (a03*a31*a12*a20) := (((b03.mul b31).mul b12).mul b20)
  have t23 : B (a03*a12*a21*a30) := (((b03.mul b12).mul b21).mul b30)
  have e : det 4 [[a00 * 1, a01 * 1, a02 * 1, a03 * 1000], [a10 * 1, a11 * 1, a12 * 1000, a13 * 1], [a20 * 1000, a21 * 1, a22 * 1, a23 * 1], [a30 * 1, a31 * 1000, a32 * 1, a33 * 1]] = 1 * (a00*a11*a22*a33) + (-1) * (a00*a11*a23*a32) + (-1000) * (a00*a12*a21*a33) + 1000000 * (a00*a12*a23*a31) + 1 * (a00*a13*a21*a32) + (-1000) * (a00*a13*a22*a31) + (-1) * (a01*a10*a22*a33) + 1 * (a01*a10*a23*a32) + 1000000 * (a01*a12*a20*a33) + (-1000) * (a01*a12*a23*a30) + (-1000) * (a01*a13*a20*a32) + 1 * (a01*a13*a22*a30) + 1 * (a02*a10*a21*a33) + (-1000) * (a02*a10*a23*a31) + (-1000) * (a02*a11*a20*a33) + 1 * (a02*a11*a23*a30) + 1000000 * (a02*a13*a20*a31) + (-1) * (a02*a13*a21*a30) + (-1000) * (a03*a10*a21*a32) + 1000000 * (a03*a10*a22*a31) + 1000000 * (a03*a11*a20*a32) + (-1000) * (a03*a11*a22*a30) + (-1000000000000) * (a03*a31*a12*a20) + 1000000 * (a03*a12*a21*a30) := by
    rw [det4_eq]
    grind
  rw [e]
  unfold B at t0 t1 t2 t3 t4 t5 t6 t7 t8 t9 t10 t11 t12 t13 t14 t15 t16 t17 t18 t19 t20 t21 t22 t23
  generalize a00*a11*a22*a33 = x0 at t0 h ⊢
  generalize a00*a11*a23*a32 = x1 at t1 h ⊢
  generalize a00*a12*a21*a33 = x2 at t2 h ⊢
  generalize a00*a12*a23*a31 = x3 at t3 h ⊢
  generalize a00*a13*a21*a32 = x4 at t4 h ⊢
  generalize a00*a13*a22*a31 = x5 at t5 h ⊢
  generalize a01*a10*a22*a33 = x6 at t6 h ⊢
  generalize a01*a10*a23*a32 = x7 at t7 h ⊢
  generalize a01*a12*a20*a33 = x8 at t8 h ⊢
  generalize a01*a12*a23*a30 = x9 at t9 h ⊢
  generalize a01*a13*a20*a32 = x10 at t10 h ⊢
  generalize a01*a13*a22*a30 = x11 at t11 h ⊢
  generalize a02*a10*a21*a33 = x12 at t12 h ⊢
  generalize a02*a10*a23*a31 = x13 at t13 h ⊢
  generalize a02*a11*a20*a33 = x14 at t14 h ⊢
  generalize a02*a11*a23*a30 = x15 at t15 h ⊢
  generalize a02*a13*a20*a31 = x16 at t16 h ⊢
  generalize a02*a13*a21*a30 = x17 at t17 h ⊢
  generalize a03*a10*a21*a32 = x18 at t18 h ⊢
  generalize a03*a10*a22*a31 = x19 at t19 h ⊢
  generalize a03*a11*a20*a32 = x20 at t20 h ⊢
  generalize a03*a11*a22*a30 = x21 at t21 h ⊢
  generalize a03*a31*a12*a20 = x22 at t22 h ⊢
  generalize a03*a12*a21*a30 = x23 at t23 h ⊢
  omega
theorem bad4_0321 {a00 a01 a02 a03 a10 a11 a12 a13 a20 a21 a22 a23 a30 a31 a32 a33 : Int} (b00 : B a00) (b01 : B a01) (b02 : B a02) (b03 : B a03) (b10 : B a10) (b11 : B a11) (b12 : B a12) (b13 : B a13) (b20 : B a20) (b21 : B a21) (b22 : B a22) (b23 : B a23) (b30 : B a30) (b31 : B a31) (b32 : B a32) (b33 : B a33) (h : -(a03*a32*a21*a10) < 0) : det 4 [[a00 * 1, a01 * 1, a02 * 1, a03 * 1000], [a10 * 1000, a11 * 1, a12 * 1, a13 * 1], [a20 * 1, a21 * 1000, a22 * 1, a23 * 1], [a30 * 1, a31 * 1, a32 * 1000, a33 * 1]] ≤ 0 := by
  have t0 : B (a00*a11*a22*a33) := (((b00.mul b11).mul b22).mul b33)
  have t1 : B (a00*a11*a23*a32) := (((b00.mul b11).mul b23).mul b32)
  have t2 : B (a00*a12*a21*a33) := (((b00.mul b12).mul b21).mul b33)
  have t3 : B (a00*a12*a23*a31) := (((b00.mul b12).mul b23).mul b31)
  have t4 : B (a00*a13*a21*a32) := (((b00.mul b13).mul b21).mul b32)
  have t5 : B (a00*a13*a22*a31) := (((b00.mul b13).mul b22).mul b31)
  have t6 : B (a01*a10*a22*a33) := (((b01.mul b10).mul b22).mul b33)
  have t7 : B (a01*a10*a23*a32) := (((b01.mul b10).mul b23).mul b32)
  have t8 : B (a01*a12*a20*a33) := (((b01.mul b12).mul b20).mul b33)
  have t9 : B (a01*a12*a23*a30) := (((b01.mul b12).mul b23).mul b30)
  have t10 : B (a01*a13*a20*a32) := (((b01.mul b13).mul b20).mul b32)
  have t11 : B (a01*a13*a22*a30) := (((b01.mul b13).mul b22).mul b30)
  have t12 : B (a02*a10*a21*a33) := (((b02.mul b10).mul b21).mul b33)
  have t13 : B (a02*a10*a23*a31) := (((b02.mul b10).mul b23).mul b31)
  have t14 : B (a02*a11*a20*a33) := (((b02.mul b11).mul b20).mul b33)
  have t15 : B (a02*a11*a23*a30) := (((b02.mul b11).mul b23).mul b30)
  have t16 : B (a02*a13*a20*a31) := (((b02.mul b13).mul b20).mul b31)
  have t17 : B (a02*a13*a21*a30) := (((b02.mul b13).mul b21).mul b30)
  have t18 : B (a03*a32*a21*a10) := (((b03.mul b32).mul b21).mul b10)
  have t19 : B (a03*a10*a22*a31) := (((b03.mul b10).mul b22).mul b31)
  have t20 : B (a03*a11*a20*a32) := (((b03.mul b11).mul b20).mul b32)
  have t21 : B (a03*a11*a22*a30) := (((b03.mul b11).mul b22).mul b30)
  have t22 : B (a03*a12*a20*a31) := (((b03.mul b12).mul b20).mul b31)
  have t23 : B (a03*a12*a21*a30) := (((b03.mul b12).mul b21).mul b30)
  have e : det 4 [[a00 * 1, a01 * 1, a02 * 1, a03 * 1000], [a10 * 1000, a11 * 1, a12 * 1, a13 * 1], [a20 * 1, a21 * 1000, a22 * 1, a23 * 1], [a30 * 1, a31 * 1, a32 * 1000, a33 * 1]] = 1 * (a00*a11*a22*a33) + (-1000) * (a00*a11*a23*a32) + (-1000) * (a00*a12*a21*a33) + 1 * (a00*a12*a23*a31) + 1000000 * (a00*a13*a21*a32) + (-1) * (a00*a13*a22*a31) + (-1000) * (a01*a10*a22*a33) + 1000000 * (a01*a10*a23*a32) + 1 * (a01*a12*a20*a33) + (-1) * (a01*a12*a23*a30) + (-1000) * (a01*a13*a20*a32) + 1 * (a01*a13*a22*a30) + 1000000 * (a02*a10*a21*a33) + (-1000) * (a02*a10*a23*a31) + (-1) * (a02*a11*a20*a33) + 1 * (a02*a11*a23*a30) + 1 * (a02*a13*a20*a31) + (-1000) * (a02*a13*a21*a30) + (-1000000000000) * (a03*a32*a21*a10) + 1000000 * (a03*a10*a22*a31) + 1000000 * (a03*a11*a20*a32) + (-1000) * (a03*a11*a22*a30) + (-1000) * (a03*a12*a20*a31) + 1000000 * (a03*a12*a21*a30) := by
    rw [det4_eq]
    grind
  rw [e]
  unfold B at t0 t1 t2 t3 t4 t5 t6 t7 t8 t9 t10 t11 t12 t13 t14 t15 t16 t17 t18 t19 t20 t21 t22 t23
  generalize a00*a11*a22*a33 = x0 at t0 h ⊢
  generalize a00*a11*a23*a32 = x1 at t1 h ⊢
  generalize a00*a12*a21*a33 = x2 at t2 h ⊢
  generalize a00*a12*a23*a31 = x3 at t3 h ⊢
  generalize a00*a13*a21*a32 = x4 at t4 h ⊢
  generalize a00*a13*a22*a31 = x5 at t5 h ⊢
  generalize a01*a10*a22*a33 = x6 at t6 h ⊢
  generalize a01*a10*a23*a32 = x7 at t7 h ⊢
  generalize a01*a12*a20*a33 = x8 at t8 h ⊢
  generalize a01*a12*a23*a30 = x9 at t9 h ⊢
  generalize a01*a13*a20*a32 = x10 at t10 h ⊢
  generalize a01*a13*a22*a30 = x11 at t11 h ⊢
  generalize a02*a10*a21*a33 = x12 at t12 h ⊢
  generalize a02*a10*a23*a31 = x13 at t13 h ⊢
  generalize a02*a11*a20*a33 = x14 at t14 h ⊢
  generalize a02*a11*a23*a30 = x15 at t15 h ⊢
  generalize a02*a13*a20*a31 = x16 at t16 h ⊢
  generalize a02*a13*a21*a30 = x17 at t17 h ⊢
  generalize a03*a32*a21*a10 = x18 at t18 h ⊢
  generalize a03*a10*a22*a31 = x19 at t19 h ⊢
  generalize a03*a11*a20*a32 = x20 at t20 h ⊢
  generalize a03*a11*a22*a30 = x21 at t21 h ⊢
  generalize a03*a12*a20*a31 = x22 at t22 h ⊢
  generalize a03*a12*a21*a30 = x23 at t23 h ⊢
  omega
/-! ### lots, rings, signs -/
def lotsU : Nat → List (List Nat)
  | 0 => [[]]
  | n + 1 => lotsU n ++ (lotsU n).map fun l => l ++ [n]
def ends (n : Nat) : Nat → List (List Nat)
  | 0 => (List.range n).map fun p => [p]
  | k + 1 => (ends n k).flatMap fun r => ((List.range' (r.headD 0 + 1) (n - (r.headD 0 + 1))).filter fun p => decide (p ∉ r)).map fun p => r ++ [p]
def found (n : Nat) : Nat → List (List Nat)
  | 0 => []
  | k + 1 => found n k ++ ends n k
/-- all rings, by length, then as tuples -/
def rings (n : Nat) : List (List Nat) := found n n
def nexts (r : List Nat) : List Nat := r.drop 1 ++ [r.headD 0]
def cell (m : List (List Int)) (i j : Nat) : Int := (m.getD i []).getD j 0
def prodTo (f : Nat → Int) : Nat → Int
  | 0 => 1
  | n + 1 => prodTo f n * f n
def wprod (s : Nat → Nat → Int) (r : List Nat) : Int := prodTo (fun i => s (r.getD i 0) ((nexts r).getD i 0)) r.length
def worth (s : Nat → Nat → Int) (r : List Nat) : Int := if r.length % 2 = 0 then -wprod s r else wprod s r
def isBad (s : Nat → Nat → Int) (r : List Nat) : Bool := if r.length = 1 then decide (worth s r ≤ 0) else decide (worth s r < 0)
def cutF (s : Nat → Nat → Int) (l : List Nat) : List (List Int) := l.map fun i => l.map fun j => s i j
def behind (r : List Nat) (i : Nat) : Option Nat := (r.zip (nexts r)).lookup i
def fillF (s : Nat → Nat → Int) (r : List Nat) (i j : Nat) : Int := s i j * (if behind r i = some j then 1000 else 1)
theorem ends_end : ∀ n, n ≤ 4 → ends n n = [] := by decide
theorem rings1 : rings 1 = [[0]] := by decide
theorem rings2 : rings 2 = [[0], [1], [0, 1]] := by decide
theorem rings3 : rings 3 = [[0], [1], [2], [0, 1], [0, 2], [1, 2], [0, 1, 2], [0, 2, 1]] := by decide
theorem rings4 : rings 4 = [[0], [1], [2], [3], [0, 1], [0, 2], [0, 3], [1, 2], [1, 3], [2, 3], [0, 1, 2], [0, 1, 3], [0, 2, 1], [0, 2, 3], [0, 3, 1], [0, 3, 2], [1, 2, 3], [1, 3, 2],
  [0, 1, 2, 3], [0, 1, 3, 2], [0, 2, 1, 3], [0, 2, 3, 1], [0, 3, 1, 2], [0, 3, 2, 1]] := by decide
theorem lots1 : lotsU 1 = [[], [0]] := by decide
theorem lots2 : lotsU 2 = [[], [0], [1], [0, 1]] := by decide
theorem lots3 : lotsU 3 = [[], [0], [1], [0, 1], [2], [0, 2], [1, 2], [0, 1, 2]] := by decide
theorem lots4 : lotsU 4 = [[], [0], [1], [0, 1], [2], [0, 2], [1, 2], [0, 1, 2], [3], [0, 3], [1, 3], [0, 1, 3], [2, 3], [0, 2, 3], [1, 2, 3], [0, 1, 2, 3]] := by decide
theorem rg1 {m : Nat → Nat → Int} {i : Nat} (h : isBad m [i] = false) : 0 < m i i := by
  have h1 : ¬ (1 * m i i ≤ 0) := of_decide_eq_false h
  omega
theorem isBad_two {m : Nat → Nat → Int} {i j : Nat} : isBad m [i, j] = decide (-(1 * m i j * m j i) < 0) := by
  have e : worth m [i, j] = -(1 * m i j * m j i) := by
    unfold worth
    rw [if_pos (show [i, j].length % 2 = 0 from by simp)]
    rfl
  unfold isBad
  rw [if_neg (show ¬ [i, j].length = 1 from by simp), e]
theorem isBad_three {m : Nat → Nat → Int} {i j k : Nat} : isBad m [i, j, k] = decide (1 * m i j * m j k * m k i < 0) := by
  have e : worth m [i, j, k] = 1 * m i j * m j k * m k i := by
    unfold worth
    rw [if_neg (show ¬ [i, j, k].length % 2 = 0 from by simp)]
    rfl
  unfold isBad
  rw [if_neg (show ¬ [i, j, k].length = 1 from by simp), e]
theorem isBad_four {m : Nat → Nat → Int} {i j k l : Nat} : isBad m [i, j, k, l] = decide (-(1 * m i j * m j k * m k l * m l i) < 0) := by
  have e : worth m [i, j, k, l] = -(1 * m i j * m j k * m k l * m l i) := by
    unfold worth
    rw [if_pos (show [i, j, k, l].length % 2 = 0 from by simp)]
    rfl
  unfold isBad
  rw [if_neg (show ¬ [i, j, k, l].length = 1 from by simp), e]
theorem rg2 {m : Nat → Nat → Int} {i j : Nat} (h : isBad m [i, j] = false) : 0 ≤ -(m i j * m j i) := by
  have h1 : ¬ (-(1 * m i j * m j i) < 0) := of_decide_eq_false (isBad_two.symm.trans h)
  rw [Int.one_mul] at h1
  omega
theorem rg3 {m : Nat → Nat → Int} {i j k : Nat} (h : isBad m [i, j, k] = false) : 0 ≤ m i j * m j k * m k i := by
  have h1 : ¬ (1 * m i j * m j k * m k i < 0) := of_decide_eq_false (isBad_three.symm.trans h)
  rw [Int.one_mul] at h1
  omega
theorem rg4 {m : Nat → Nat → Int} {i j k l : Nat} (h : isBad m [i, j, k, l] = false) : 0 ≤ -(m i j * m j k * m k l * m l i) := by
  have h1 : ¬ (-(1 * m i j * m j k * m k l * m l i) < 0) := of_decide_eq_false (isBad_four.symm.trans h)
  rw [Int.one_mul] at h1
  omega
theorem rb1 {m : Nat → Nat → Int} {i : Nat} (h : isBad m [i] = true) : m i i ≤ 0 := by
  have h1 : 1 * m i i ≤ 0 := of_decide_eq_true h
  omega
theorem rb2 {m : Nat → Nat → Int} {i j : Nat} (h : isBad m [i, j] = true) : -(m i j * m j i) < 0 := by
  have h1 : -(1 * m i j * m j i) < 0 := of_decide_eq_true (isBad_two.symm.trans h)
  rw [Int.one_mul] at h1
  exact h1
theorem rb3 {m : Nat → Nat → Int} {i j k : Nat} (h : isBad m [i, j, k] = true) : m i j * m j k * m k i < 0 := by
  have h1 : 1 * m i j * m j k * m k i < 0 := of_decide_eq_true (isBad_three.symm.trans h)
  rw [Int.one_mul] at h1
  exact h1
theorem rb4 {m : Nat → Nat → Int} {i j k l : Nat} (h : isBad m [i, j, k, l] = true) : -(m i j * m j k * m k l * m l i) < 0 := by
  have h1 : -(1 * m i j * m j k * m k l * m l i) < 0 := of_decide_eq_true (isBad_four.symm.trans h)
  rw [Int.one_mul] at h1
  exact h1
theorem good1 {m : Nat → Nat → Int} (H : ∀ r ∈ rings 1, isBad m r = false) : ∀ l ∈ lotsU 1, l ≠ [] → 0 < det l.length (cutF m l) := by
  rw [lots1]
  have h0 := rg1 (H [0] (by decide))
  intro l hl hne
  simp only [List.mem_cons, List.not_mem_nil, or_false] at hl
  rcases hl with rfl | rfl
  · exact absurd rfl hne
  · exact pos1 h0
theorem good2 {m : Nat → Nat → Int} (H : ∀ r ∈ rings 2, isBad m r = false) : ∀ l ∈ lotsU 2, l ≠ [] → 0 < det l.length (cutF m l) := by
  rw [lots2]
  have h0 := rg1 (H [0] (by decide))
  have h1 := rg1 (H [1] (by decide))
  have h01 := rg2 (H [0, 1] (by decide))
  intro l hl hne
  simp only [List.mem_cons, List.not_mem_nil, or_false] at hl
  rcases hl with rfl | rfl | rfl | rfl
  · exact absurd rfl hne
  · exact pos1 h0
  · exact pos1 h1
  · exact pos2 h0 h1 h01
theorem good3 {m : Nat → Nat → Int} (H : ∀ r ∈ rings 3, isBad m r = false) : ∀ l ∈ lotsU 3, l ≠ [] → 0 < det l.length (cutF m l) := by
  rw [lots3]
  have h0 := rg1 (H [0] (by decide))
  have h1 := rg1 (H [1] (by decide))
  have h2 := rg1 (H [2] (by decide))
  have h01 := rg2 (H [0, 1] (by decide))
  have h02 := rg2 (H [0, 2] (by decide))
  have h12 := rg2 (H [1, 2] (by decide))
  have h012 := rg3 (H [0, 1, 2] (by decide))
  have h021 := rg3 (H [0, 2, 1] (by decide))
  intro l hl hne
  simp only [List.mem_cons, List.not_mem_nil, or_false] at hl
  rcases hl with rfl | rfl | rfl | rfl | rfl | rfl | rfl | rfl
  · exact absurd rfl hne
  · exact pos1 h0
  · exact pos1 h1
  · exact pos2 h0 h1 h01
  · exact pos1 h2
  · exact pos2 h0 h2 h02
  · exact pos2 h1 h2 h12
  · exact pos3 h0 h1 h2 h01 h02 h12 h012 h021
theorem good4 {m : Nat → Nat → Int} (H : ∀ r ∈ rings 4, isBad m r = false) : ∀ l ∈ lotsU 4, l ≠ [] → 0 < det l.length (cutF m l) := by
  rw [lots4]
  have h0 := rg1 (H [0] (by decide))
  have h1 := rg1 (H [1] (by decide))
  have h2 := rg1 (H [2] (by decide))
  have h3 := rg1 (H [3] (by decide))
  have h01 := rg2 (H [0, 1] (by decide))
  have h02 := rg2 (H [0, 2] (by decide))
  have h03 := rg2 (H [0, 3] (by decide))
  have h12 := rg2 (H [1, 2] (by decide))
  have h13 := rg2 (H [1, 3] (by decide))
  have h23 := rg2 (H [2, 3] (by decide))
  have h012 := rg3 (H [0, 1, 2] (by decide))
  have h013 := rg3 (H [0, 1, 3] (by decide))
  have h021 := rg3 (H [0, 2, 1] (by decide))
  have h023 := rg3 (H [0, 2, 3] (by decide))
  have h031 := rg3 (H [0, 3, 1] (by decide))
  have h032 := rg3 (H [0, 3, 2] (by decide))
  have h123 := rg3 (H [1, 2, 3] (by decide))
  have h132 := rg3 (H [1, 3, 2] (by decide))
  have h0123 := rg4 (H [0, 1, 2, 3] (by decide))
  have h0132 := rg4 (H [0, 1, 3, 2] (by decide))
  have h0213 := rg4 (H [0, 2, 1, 3] (by decide))
  have h0231 := rg4 (H [0, 2, 3, 1] (by decide))
  have h0312 := rg4 (H [0, 3, 1, 2] (by decide))
  have h0321 := rg4 (H [0, 3, 2, 1] (by decide))
  intro l hl hne
  simp only [List.mem_cons, List.not_mem_nil, or_false] at hl
  rcases hl with rfl | rfl | rfl | rfl | rfl | rfl | rfl | rfl | rfl | rfl | rfl | rfl | rfl | rfl | rfl | rfl
  · exact absurd rfl hne
  · exact pos1 h0
  · exact pos1 h1
  · exact pos2 h0 h1 h01
  · exact pos1 h2
  · exact pos2 h0 h2 h02
  · exact pos2 h1 h2 h12
  · exact pos3 h0 h1 h2 h01 h02 h12 h012 h021
  · exact pos1 h3
  · exact pos2 h0 h3 h03
  · exact pos2 h1 h3 h13
  · exact pos3 h0 h1 h3 h01 h03 h13 h013 h031
  · exact pos2 h2 h3 h23
  · exact pos3 h0 h2 h3 h02 h03 h23 h023 h032
  · exact pos3 h1 h2 h3 h12 h13 h23 h123 h132
  · exact pos4 h0 h1 h2 h3 h01 h02 h03 h12 h13 h23 h012 h013 h021 h023 h031 h032 h123 h132 h0123 h0132 h0213 h0231 h0312 h0321
theorem badr1 {s : Nat → Nat → Int} (hB : ∀ i j, B (s i j)) : ∀ r ∈ rings 1, isBad s r = true → ∃ l ∈ lotsU 1, l ≠ [] ∧ det l.length (cutF (fillF s r) l) ≤ 0 := by
  rw [rings1, lots1]
  intro r hr hb
  simp only [List.mem_cons, List.not_mem_nil, or_false] at hr
  rcases hr with rfl
  · exact ⟨[0], by decide, by decide, bad1_0 (hB _ _) (rb1 hb)⟩
theorem badr2 {s : Nat → Nat → Int} (hB : ∀ i j, B (s i j)) : ∀ r ∈ rings 2, isBad s r = true → ∃ l ∈ lotsU 2, l ≠ [] ∧ det l.length (cutF (fillF s r) l) ≤ 0 := by
  rw [rings2, lots2]
  intro r hr hb
  simp only [List.mem_cons, List.not_mem_nil, or_false] at hr
  rcases hr with rfl | rfl | rfl
  · exact ⟨[0], by decide, by decide, bad1_0 (hB _ _) (rb1 hb)⟩
  · exact ⟨[1], by decide, by decide, bad1_0 (hB _ _) (rb1 hb)⟩
  · exact ⟨[0, 1], by decide, by decide, bad2_01 (hB _ _) (hB _ _) (hB _ _) (hB _ _) (rb2 hb)⟩
theorem badr3 {s : Nat → Nat → Int} (hB : ∀ i j, B (s i j)) : ∀ r ∈ rings 3, isBad s r = true → ∃ l ∈ lotsU 3, l ≠ [] ∧ det l.length (cutF (fillF s r) l) ≤ 0 := by
  rw [rings3, lots3]
  intro r hr hb
  simp only [List.mem_cons, List.not_mem_nil, or_false] at hr
  rcases hr with rfl | rfl | rfl | rfl | rfl | rfl | rfl | rfl
  · exact ⟨[0], by decide, by decide, bad1_0 (hB _ _) (rb1 hb)⟩
  · exact ⟨[1], by decide, by decide, bad1_0 (hB _ _) (rb1 hb)⟩
  · exact ⟨[2], by decide, by decide, bad1_0 (hB _ _) (rb1 hb)⟩
  · exact ⟨[0, 1], by decide, by decide, bad2_01 (hB _ _) (hB _ _) (hB _ _) (hB _ _) (rb2 hb)⟩
  · exact ⟨[0, 2], by decide, by decide, bad2_01 (hB _ _) (hB _ _) (hB _ _) (hB _ _) (rb2 hb)⟩
  · exact ⟨[1, 2], by decide, by decide, bad2_01 (hB _ _) (hB _ _) (hB _ _) (hB _ _) (rb2 hb)⟩
  · exact ⟨[0, 1, 2], by decide, by decide, bad3_012 (hB _ _) (hB _ _) (hB _ _) (hB _ _) (hB _ _) (hB _ _) (hB _ _) (hB _ _) (hB _ _) (rb3 hb)⟩
  · exact ⟨[0, 1, 2], by decide, by decide, bad3_021 (hB _ _) (hB _ _) (hB _ _) (hB _ _) (hB _ _) (hB _ _) (hB _ _) (hB _ _) (hB _ _) (rb3 hb)⟩
theorem badr4 {s : Nat → Nat → Int} (hB : ∀ i j, B (s i j)) : ∀ r ∈ rings 4, isBad s r = true → ∃ l ∈ lotsU 4, l ≠ [] ∧ det l.length (cutF (fillF s r) l) ≤ 0 := by
  rw [rings4, lots4]
  intro r hr hb
  simp only [List.mem_cons, List.not_mem_nil, or_false] at hr
  rcases hr with rfl | rfl | rfl | rfl | rfl | rfl | rfl | rfl | rfl | rfl | rfl | rfl | rfl | rfl | rfl | rfl | rfl | rfl | rfl | rfl | rfl | rfl | rfl | rfl
  · exact ⟨[0], by decide, by decide, bad1_0 (hB _ _) (rb1 hb)⟩
  · exact ⟨[1], by decide, by decide, bad1_0 (hB _ _) (rb1 hb)⟩
  · exact ⟨[2], by decide, by decide, bad1_0 (hB _ _) (rb1 hb)⟩
  · exact ⟨[3], by decide, by decide, bad1_0 (hB _ _) (rb1 hb)⟩
  · exact ⟨[0, 1], by decide, by decide, bad2_01 (hB _ _) (hB _ _) (hB _ _) (hB _ _) (rb2 hb)⟩
  · exact ⟨[0, 2], by decide, by decide, bad2_01 (hB _ _) (hB _ _) (hB _ _) (hB _ _) (rb2 hb)⟩
  · exact ⟨[0, 3], by decide, by decide, bad2_01 (hB _ _) (hB _ _) (hB _ _) (hB _ _) (rb2 hb)⟩
  · exact ⟨[1, 2], by decide, by decide, bad2_01 (hB _ _) (hB _ _) (hB _ _) (hB _ _) (rb2 hb)⟩
  · exact ⟨[1, 3], by decide, by decide, bad2_01 (hB _ _) (hB _ _) (hB _ _) (hB _ _) (rb2 hb)⟩
  · exact ⟨[2, 3], by decide, by decide, bad2_01 (hB _ _) (hB _ _) (hB _ _) (hB _ _) (rb2 hb)⟩
  · exact ⟨[0, 1, 2], by decide, by decide, bad3_012 (hB _ _) (hB _ _) (hB _ _) (hB _ _) (hB _ _) (hB _ _) (hB _ _) (hB _ _) (hB _ _) (rb3 hb)⟩
  · exact ⟨[0, 1, 3], by decide, by decide, bad3_012 (hB _ _) (hB _ _) (hB _ _) (hB _ _) (hB _ _) (hB _ _) (hB _ _) (hB _ _) (hB _ _) (rb3 hb)⟩
  · exact ⟨[0, 1, 2], by decide, by decide, bad3_021 (hB _ _) (hB _ _) (hB _ _) (hB _ _) (hB _ _) (hB _ _) (hB _ _) (hB _ _) (hB _ _) (rb3 hb)⟩
  · exact ⟨[0, 2, 3], by decide, by decide, bad3_012 (hB _ _) (hB _ _) (hB _ _) (hB _ _) (hB _ _) (hB _ _) (hB _ _) (hB _ _) (hB _ _) (rb3 hb)⟩
  · exact ⟨[0, 1, 3], by decide, by decide, bad3_021 (hB _ _) (hB _ _) (hB _ _) (hB _ _) (hB _ _) (hB _ _) (hB _ _) (hB _ _) (hB _ _) (rb3 hb)⟩
  · exact ⟨[0, 2, 3], by decide, by decide, bad3_021 (hB _ _) (hB _ _) (hB _ _) (hB _ _) (hB _ _) (hB _ _) (hB _ _) (hB _ _) (hB _ _) (rb3 hb)⟩
  · exact ⟨[1, 2, 3], by decide, by decide, bad3_012 (hB _ _) (hB _ _) (hB _ _) (hB _ _) (hB _ _) (hB _ _) (hB _ _) (hB _ _) (hB _ _) (rb3 hb)⟩
  · exact ⟨[1, 2, 3], by decide, by decide, bad3_021 (hB _ _) (hB _ _) (hB _ _) (hB _ _) (hB _ _) (hB _ _) (hB _ _) (hB _ _) (hB _ _) (rb3 hb)⟩
  · exact ⟨[0, 1, 2, 3], by decide, by decide, bad4_0123 (hB _ _) (hB _ _) (hB _ _) (hB _ _) (hB _ _) (hB _ _) (hB _ _) (hB _ _) (hB _ _) (hB _ _) (hB _ _) (hB _ _) (hB _ _) (hB _ _) (hB _ _) (hB _ _) (rb4 hb)⟩
  · exact ⟨[0, 1, 2, 3], by decide, by decide, bad4_0132 (hB _ _) (hB _ _) (hB _ _) (hB _ _) (hB _ _) (hB _ _) (hB _ _) (hB _ _) (hB _ _) (hB _ _) (hB _ _) (hB _ _) (hB _ _) (hB _ _) (hB _ _) (hB _ _) (rb4 hb)⟩
  · exact ⟨[0, 1, 2, 3], by decide, by decide, bad4_0213 (hB _ _) (hB _ _) (hB _ _) (hB _ _) (hB _ _) (hB _ _) (hB _ _) (hB _ _) (hB _ _) (hB _ _) (hB _ _) (hB _ _) (hB _ _) (hB _ _) (hB _ _) (hB _ _) (rb4 hb)⟩
  · exact ⟨[0, 1, 2, 3], by decide, by decide, bad4_0231 (hB _ _) (hB _ _) (hB _ _) (hB _ _) (hB _ _) (hB _ _) (hB _ _) (hB _ _) (hB _ _) (hB _ _) (hB _ _) (hB _ _) (hB _ _) (hB _ _) (hB _ _) (hB _ _) (rb4 hb)⟩
  · exact ⟨[0, 1, 2, 3], by decide, by decide, bad4_0312 (hB _ _) (hB _ _) (hB _ _) (hB _ _) (hB _ _) (hB _ _) (hB _ _) (hB _ _) (hB _ _) (hB _ _) (hB _ _) (hB _ _) (hB _ _) (hB _ _) (hB _ _) (hB _ _) (rb4 hb)⟩
  · exact ⟨[0, 1, 2, 3], by decide, by decide, bad4_0321 (hB _ _) (hB _ _) (hB _ _) (hB _ _) (hB _ _) (hB _ _) (hB _ _) (hB _ _) (hB _ _) (hB _ _) (hB _ _) (hB _ _) (hB _ _) (hB _ _) (hB _ _) (hB _ _) (rb4 hb)⟩
theorem prodTo_mul (f g : Nat → Int) : ∀ n, prodTo (fun i => f i * g i) n = prodTo f n * prodTo g n
  | 0 => rfl
  | n + 1 => by
    show prodTo (fun i => f i * g i) n * (f n * g n) = prodTo f n * f n * (prodTo g n * g n)
    rw [prodTo_mul f g n]
    grind
theorem prodTo_pos (f : Nat → Int) (h : ∀ i, 0 < f i) : ∀ n, 0 < prodTo f n
  | 0 => by
    show (0 : Int) < 1
    decide
  | n + 1 => Int.mul_pos (prodTo_pos f h n) (h n)
theorem sign_mul {x y : Int} (h : 0 < y) : (x * y ≤ 0 ↔ x ≤ 0) ∧ (x * y < 0 ↔ x < 0) := by
  constructor
  · constructor
    · intro q
      rcases Int.lt_or_le 0 x with z | z
      · have := Int.mul_pos z h
        omega
      · exact z
    · intro q
      exact Int.mul_nonpos_of_nonpos_of_nonneg q (Int.le_of_lt h)
  · constructor
    · intro q
      rcases Int.lt_or_le x 0 with z | z
      · exact z
      · have := Int.mul_nonneg z (Int.le_of_lt h)
        omega
    · intro q
      exact Int.mul_neg_of_neg_of_pos q h
/-- what is bad hangs on the signs alone -/
theorem isBad_mul (s p : Nat → Nat → Int) (hp : ∀ i j, 0 < p i j) (r : List Nat) : isBad (fun i j => s i j * p i j) r = isBad s r := by
  have e : wprod (fun i j => s i j * p i j) r = wprod s r * wprod p r := prodTo_mul _ _ _
  have hq : 0 < wprod p r := prodTo_pos _ (fun _ => hp _ _) _
  have e2 : worth (fun i j => s i j * p i j) r = worth s r * wprod p r := by
    unfold worth
    rw [e]
    split
    · rw [Int.neg_mul]
    · rfl
  obtain ⟨h1, h2⟩ := sign_mul (x := worth s r) hq
  unfold isBad
  rw [e2]
  split
  · exact decide_eq_decide.mpr h1
  · exact decide_eq_decide.mpr h2
theorem good_lots {n : Nat} (h1 : 1 ≤ n) (h4 : n ≤ 4) {m : Nat → Nat → Int} (H : ∀ r ∈ rings n, isBad m r = false) : ∀ l ∈ lotsU n, l ≠ [] → 0 < det l.length (cutF m l) := by
  have e : n = 1 ∨ n = 2 ∨ n = 3 ∨ n = 4 := by omega
  rcases e with rfl | rfl | rfl | rfl
  · exact good1 H
  · exact good2 H
  · exact good3 H
  · exact good4 H
theorem bad_lots {n : Nat} (h1 : 1 ≤ n) (h4 : n ≤ 4) {s : Nat → Nat → Int} (hB : ∀ i j, B (s i j)) {r : List Nat} (hr : r ∈ rings n) (hb : isBad s r = true) : ∃ l ∈ lotsU n, l ≠ [] ∧ det l.length (cutF (fillF s r) l) ≤ 0 := by
  have e : n = 1 ∨ n = 2 ∨ n = 3 ∨ n = 4 := by omega
  rcases e with rfl | rfl | rfl | rfl
  · exact badr1 hB r hr hb
  · exact badr2 hB r hr hb
  · exact badr3 hB r hr hb
  · exact badr4 hB r hr hb
end Ow
set_option Elab.async false
set_option linter.all false
set_option maxRecDepth 100000
/-! rules that this law lacked: enumerate over a tuple, zip of a tuple and a list, dict of such a zip -/
namespace Ow
open PySem PySem.Spec PyProof.Rows L2

/-! ### enumerate(tuple) -/
theorem meets_enum_one {v : Value} {o : Obj} {H : Heap → Prop} (B : Begins v o H) :
    Meets (Builtin.«enumerate.__new__» ⟨[.type "enumerate", v], []⟩) (fun _ R s => H s.heap ∧
      R (.ok (.ret (.ref (s.heap.push o).objs.size))) { s with heap := (s.heap.push o).push { cls := .type "enumerate", data := .fields #[.none, .bool false, .ref s.heap.objs.size, rawInt 0, .none, .none] } }) :=
  .of_wp fun prog w A R s h => by
    obtain ⟨hp, g, d, tk, os⟩ := s
    obtain ⟨hH, hR⟩ := h
    have hsub := sub_enumerate
    have begin1 : ∀ {A' : Around} {E : Value → Shared → Prop} {Q : Value → Shared → Prop}, Q (.ref hp.objs.size) ⟨hp.push o, g, d, tk, os⟩ →
        wpAny (model prog w) A' (pyIter v) Q E ⟨hp, g, d, tk, os⟩ := fun q => B.iter prog w _ _ ⟨hp, g, d, tk, os⟩ _ hH q
    wp_walk using begin1
    refine wpAny_stack_any fun st => wpAny_pure ?_
    split
    · rename_i c _ _ _ _ _
      cases (c == Value.type "enumerate") <;> (wp_walk using begin1; exact ⟨_, rfl, hR⟩)
    · wp_walk using begin1
      exact ⟨_, rfl, hR⟩
theorem enum_one {prog : Program} {w : World} {A : Around} {E : Value → Shared → Prop} {s : Shared} {v : Value} {o : Obj} {H : Heap → Prop} {Q : Value → Shared → Prop} (B : Begins v o H) (hH : H s.heap)
    (h : ∀ h', IsEnum h' (s.heap.objs.size + 1) s.heap.objs.size 0 .none → h'.get? s.heap.objs.size = some o → (∀ b u, s.heap.get? b = some u → h'.get? b = some u) → Q (.ref (s.heap.objs.size + 1)) { s with heap := h' }) :
    wpAny (model prog w) A (call (.type "enumerate") [v]) Q E s := by
  refine callType_new F.called_enumerate (by decide) (F.typeCall_enumerate_1 _) (F.newCall_enumerate_1 _) (fun obj => F.args_object_init_2 obj _) F.entry_enumerate_new (meets_enum_one B) ⟨hH, ?_⟩
  have sz : (s.heap.push o).objs.size = s.heap.objs.size + 1 := Heap.size_push ..
  have en := Heap.get?_push_size (s.heap.push o) (o := { cls := .type "enumerate", data := .fields #[.none, .bool false, .ref s.heap.objs.size, rawInt 0, .none, .none] }) rfl
  rw [sz] at en
  show _ ∧ _
  rw [sz]
  refine ⟨⟨_, en, rfl⟩, h _ en (Heap.get?_push_of_some _ (Heap.get?_push_size _ B.free)) fun b u x => ?_⟩
  exact Heap.get?_push_of_some _ (Heap.get?_push_of_some _ x)
/-- the tuple at a, its items with their places, each pair new -/
def IteT (K : PySem.W.Frag) (a : Addr) : It :=
  ⟨fun i H => ∃ xs x, SqT K H a xs ∧ xs[i]? = some x,
    fun i H v H' => ∃ T x, v = .ref T ∧ H T = none ∧ H' = upd H T (.tup [.int (i : Nat), x]) ∧ ∀ xs, SqT K H a xs → xs[i]? = some x,
    fun i H => ∃ xs, SqT K H a xs ∧ xs.length = i⟩
theorem tupIter_ne {h : Heap} {a it : Addr} {i : Nat} {items : Array Value} (hi : h.IsTupleIter it a i) (ht : h.IsTuple a items) : a ≠ it := fun e => by
  obtain ⟨o, h1, h2, _⟩ := hi
  obtain ⟨u, g1, g2, _⟩ := ht
  rw [e, h1] at g1
  cases g1
  rw [h2] at g2
  exact absurd (Value.type.inj g2) (by decide)
theorem turn_enumT {P : Program} {w : World} {K : PySem.W.Frag} {elts : List Expr} {kk : Nat} {tpos : Pos} (a e it : Addr) :
    Turn P w K (.Tuple elts kk tpos) (IteT K a) [e, it] e (fun i h => (∃ old, IsEnum h e it ((i : Nat) : Int) old) ∧ h.IsTupleIter it a i ∧ e ≠ it) where
  mem := List.mem_cons_self
  obj := by
    rintro i h ⟨⟨old, en⟩, ⟨o, ho, hc, hd⟩, _⟩ b hb
    simp only [List.mem_cons, List.not_mem_nil, or_false] at hb
    rcases hb with rfl | rfl
    · exact ⟨_, en, fun v q => nomatch q⟩
    · exact ⟨o, ho, fun v q => by rw [hd] at q; cases q⟩
  keep := by
    rintro i h h' ⟨⟨old, en⟩, hi, ne⟩ k
    exact ⟨⟨old, k e List.mem_cons_self _ en⟩, hi.at fun o q => k it (by simp) o q, ne⟩
  item := by
    intro X hP hw hK hc i pins s σ H E I hf st hg
    subst hP hw hK
    obtain ⟨⟨old, en⟩, hit, ne⟩ := st
    obtain ⟨xs, x, hq, hx⟩ := hg
    obtain ⟨its, rv, p, hz⟩ := I.tuple hq
    obtain ⟨u, hu, ru⟩ := rv.get hx
    have ai : a ≠ it := tupIter_ne hit p
    have lt_e : e < s.heap.objs.size := Heap.lt_size en
    have lt_i : it < s.heap.objs.size := by
      obtain ⟨_, q, _⟩ := hit
      exact Heap.lt_size q
    have lt_a : a < s.heap.objs.size := by
      obtain ⟨_, q, _⟩ := id p
      exact Heap.lt_size q
    have ea : e ≠ a := fun z => by
      obtain ⟨o, g1, g2, _⟩ := id p
      rw [← z, en] at g1
      cases g1
      exact absurd (Value.type.inj g2) (by decide)
    have hA : X.A.in1.handled = none := I.ok.hd hc
    have hsz : i < its.toArray.size := by
      rw [List.size_toArray]
      exact (List.getElem?_eq_some_iff.mp hu).1
    refine wpAny_pyNext_enum_itemC (Draws.tuple hA it a ai its.toArray) en ⟨hit, p⟩ hsz ne (by simp [ne, ea]) fun y h' tk hy out st' hT hs' hk => ?_
    have ey : y = u := by
      have q : its[i]? = some y := by simpa using hy
      rw [hu] at q
      exact (Option.some.inj q).symm
    subst ey
    refine ⟨_, rfl, wpAny_letOwnedTupleGo_enum (s := { s with heap := h', toks := tk + 1 }) out fun h2 en2 sb => ?_⟩
    have hT2 : h2.get? s.heap.objs.size = some { cls := .type "tuple", data := .seq #[.int i tk, y] } := (sb.2 _ (Nat.ne_of_gt lt_e)).trans hT
    have new : ObjOk X.prog X.w (upd H s.heap.objs.size (.tup [.int (i : Nat), x])) h2 s.heap.objs.size (.tup [.int (i : Nat), x]) :=
      ⟨by show 2 ≤ sizeLine; decide, [.int i tk, y], .cons ⟨_, rfl⟩ (.cons ru .nil), _, hT2, rfl, _, rfl⟩
    have J : Inv X pins σ (upd H s.heap.objs.size (.tup [.int (i : Nat), x])) { s with heap := h2, toks := tk + 1 } :=
      I.turnedNew (ch := [e, it]) (fun b ob hb q => by
        simp only [List.mem_cons, List.not_mem_nil, or_false, not_or] at hb
        exact (sb.2 b hb.1).trans (hk b ob hb.1 hb.2 q)) hf (Nat.le_refl _) new
    refine ⟨.ref s.heap.objs.size, _, J, rfl, ⟨_, x, rfl, I.hok.fresh (Nat.le_refl _), rfl, fun ys hy' => by rw [I.tuple_inj hy' hq]; exact hx⟩, ⟨⟨y, ?_⟩, st'.1.at fun o q => (sb.2 it (Ne.symm ne)).trans q, ne⟩, fun b hb => ?_⟩
    · have e1 : ((i + 1 : Nat) : Int) = (i : Int) + 1 := by omega
      rw [e1]
      exact en2
    · have lt_b : b < s.heap.objs.size := by
        simp only [List.mem_cons, List.not_mem_nil, or_false] at hb
        rcases hb with rfl | rfl
        · exact lt_e
        · exact lt_i
      rw [upd_ne (Nat.ne_of_lt lt_b)]
      exact (hf b hb).1
  done := by
    intro X hP hw hK hc i pins s σ H E I hf st hg
    subst hP hw hK
    obtain ⟨⟨old, en⟩, hit, ne⟩ := st
    obtain ⟨xs, hq, hx⟩ := hg
    obtain ⟨its, rv, p, hz⟩ := I.tuple hq
    have ai : a ≠ it := tupIter_ne hit p
    have hA : X.A.in1.handled = none := I.ok.hd hc
    have ei : i = its.toArray.size := by
      rw [List.size_toArray, ← rv.length]
      exact hx.symm
    subst ei
    obtain ⟨f0, f1, f2, f3, f4, f5⟩ := hf it (by simp)
    exact wpAny_pyNext_enum_endD (Draws.tuple hA it a ai its.toArray) en ⟨hit, p⟩ fun h' eb => ⟨rfl, I.turned (t' := s.toks) (fun b o hb q => eb b o hb q) f0 f1 f3 f4 f5⟩
  self := fun A i s Q E st h => by
    obtain ⟨⟨old, en⟩, _⟩ := st
    exact wpAny_pyIter_enum en h
def iEnumT (K : PySem.W.Frag) (ta : TA) : TI := fun σ H R => ta σ H fun vs H1 => ∃ a xs, vs = [.ref a] ∧ SqT K H1 a xs ∧ R (IteT K a) H1
/-- for i, x in enumerate(t), t a tuple -/
theorem pi_enumT {X : Cx} {e : Expr} {ta : TA} {p pos tpos : Pos} {elts : List Expr} {kk : Nat} (hg : Gl X "enumerate") (hm : X.mg "enumerate" = none) (ha : PA X [e] ta) (hs : starEach [e] X.env = [(false, eval e X.env)] := by rfl) :
    PI X (.Tuple elts kk tpos) (.Call (.Name "enumerate" p) [e] [] pos) (iEnumT X.K ta) := by
  refine ⟨fun pins s σ H R I h => Call_ (ld_blt I hg hm boot_enumerate (PyProof.Rows.callWith_type1 (thn (ha.run pos pins s σ H _ I h) fun us s1 ⟨vs, H1, I1, r1, q1⟩ => ?_) hs rfl))⟩
  obtain ⟨a, xs, ex, hq, q⟩ := q1
  subst ex
  cases r1 with
  | cons r rr =>
    cases rr
    cases r
    obtain ⟨its, rv, p', hz⟩ := I1.tuple hq
    refine enum_one (begins_tuple a its.toArray) p' fun h' en hit hk => wpAny_pyIter_enum en ?_
    have J : Inv X pins σ H1 { s1 with heap := h' } := I1.kept (t' := s1.toks) hk
    refine ⟨s1.heap.objs.size + 1, [s1.heap.objs.size + 1, s1.heap.objs.size], _, _, H1, rfl, J, turn_enumT a (s1.heap.objs.size + 1) s1.heap.objs.size, ⟨⟨.none, en⟩, ⟨_, hit, rfl, rfl⟩, Nat.succ_ne_self _⟩, fun b hb => ?_, q⟩
    have le_b : s1.heap.objs.size ≤ b := by
      simp only [List.mem_cons, List.not_mem_nil, or_false] at hb
      rcases hb with rfl | rfl
      · exact Nat.le_succ _
      · exact Nat.le_refl _
    exact I1.fpOk le_b (I1.hok.fresh le_b)
end Ow
set_option Elab.async false
set_option linter.all false
set_option maxRecDepth 100000
namespace Ow
open PySem PySem.Spec PyProof.Rows L2
/-! ### zip(tuple, list) -/
theorem apart_sep {z TI TO i1 i2 a b : Addr} (D : ZipApart z TI TO i1 i2 a b) : ZipSep2 z TI TO i1 i2 [i1, a] [i2, b] where
  TIz := D.TIz
  TOz := D.TOz
  TITO := D.TITO
  TIi1 := D.TIi1
  mem1 := List.mem_cons_self
  zf1 := by simp [Ne.symm D.i1z, Ne.symm D.l1z]
  Tf1 := by simp [D.TOi1, Ne.symm D.l1TO]
  TIi2 := D.TIi2
  mem2 := List.mem_cons_self
  zf2 := by simp [Ne.symm D.i2z, Ne.symm D.l2z]
  Tf2 := by simp [D.TOi2, Ne.symm D.l2TO]
  sep1_2 := by simp [D.i12, Ne.symm D.l2i1]
  sep2_1 := by simp [Ne.symm D.i12, Ne.symm D.l1i2]
/-- the tuple at a and the list at b, pair by pair, each pair new -/
def ItzM (K : PySem.W.Frag) (a b : Addr) : It :=
  ⟨fun i H => ∃ (xs ys : List V) (x y : V), SqT K H a xs ∧ SqL K H b ys ∧ xs[i]? = some x ∧ ys[i]? = some y,
    fun i H v H' => ∃ T x y, v = .ref T ∧ H T = none ∧ H' = upd H T (.tup [x, y]) ∧ (∀ xs, SqT K H a xs → xs[i]? = some x) ∧ ∀ ys, SqL K H b ys → ys[i]? = some y,
    fun i H => ∃ xs ys : List V, SqT K H a xs ∧ SqL K H b ys ∧ xs.length = i ∧ ys.length = i⟩
theorem turn_zipM {P : Program} {w : World} {K : PySem.W.Frag} {elts : List Expr} {kk : Nat} {tpos : Pos} {a b z TI TO i1 i2 : Addr} (D : ZipApart z TI TO i1 i2 a b) :
    Turn P w K (.Tuple elts kk tpos) (ItzM K a b) [z, TI, TO, i1, i2] z (fun i h => IsZip h z TI TO .none ∧ IsTupOf2 h TI (.ref i1) (.ref i2) ∧ (∃ x y, IsTupOf2 h TO x y) ∧ h.IsTupleIter i1 a i ∧ h.IsListIter i2 b i) where
  mem := List.mem_cons_self
  obj := by
    rintro i h ⟨hz, hTI, ⟨x, y, hTO⟩, ⟨o1, e1, _, d1⟩, ⟨o2, e2, _, d2⟩⟩ c hc
    simp only [List.mem_cons, List.not_mem_nil, or_false] at hc
    rcases hc with rfl | rfl | rfl | rfl | rfl
    · exact ⟨_, hz, fun v q => nomatch q⟩
    · exact ⟨_, hTI, fun v q => nomatch q⟩
    · exact ⟨_, hTO, fun v q => nomatch q⟩
    · exact ⟨o1, e1, fun v q => by rw [d1] at q; cases q⟩
    · exact ⟨o2, e2, fun v q => by rw [d2] at q; cases q⟩
  keep := by
    rintro i h h' ⟨hz, hTI, ⟨x, y, hTO⟩, h1, h2⟩ k
    exact ⟨k z (by simp) _ hz, k TI (by simp) _ hTI, ⟨x, y, k TO (by simp) _ hTO⟩, h1.at fun o q => k i1 (by simp) o q, h2.at fun o q => k i2 (by simp) o q⟩
  item := by
    intro X hP hw hK hc i pins s σ H E I hf st hg
    subst hP hw hK
    obtain ⟨hz, hTI, ⟨x0, y0, hTO⟩, h1, h2⟩ := st
    obtain ⟨xs, ys, x, y, hqx, hqy, hx, hy⟩ := hg
    obtain ⟨its, rv, p, _⟩ := I.tuple hqx
    obtain ⟨its2, rv2, p2, _⟩ := I.list hqy
    obtain ⟨u, hu, ru⟩ := rv.get hx
    obtain ⟨u2, hu2, ru2⟩ := rv2.get hy
    have hA : X.A.in1.handled = none := I.ok.hd hc
    have l1 : i < its.toArray.size := by
      rw [List.size_toArray]
      exact (List.getElem?_eq_some_iff.mp hu).1
    have l2 : i < its2.toArray.size := by
      rw [List.size_toArray]
      exact (List.getElem?_eq_some_iff.mp hu2).1
    have hzl : z < s.heap.objs.size := Heap.lt_size hz
    refine wpAny_pyNext_zipD2_item (apart_sep D) (Draws.tuple hA i1 a D.l1i1 its.toArray) (Draws.list hA i2 b D.l2i2 its2.toArray) hz hTI hTO ⟨h1, p⟩ ⟨h2, p2.isList⟩ l1 l2 fun v1 v2 h' tk q1 q2 z' TO' s1 s2 hT hsz hk => ?_
    have ev1 : v1 = u := by
      have q : its[i]? = some v1 := by simpa using q1
      rw [hu] at q
      exact (Option.some.inj q).symm
    have ev2 : v2 = u2 := by
      have q : its2[i]? = some v2 := by simpa using q2
      rw [hu2] at q
      exact (Option.some.inj q).symm
    subst ev1 ev2
    refine ⟨_, rfl, wpAny_letOwnedTupleGo_zip (s := { s with heap := h', toks := tk }) z' fun h3 z3 sb => ?_⟩
    have hT2 : h3.get? s.heap.objs.size = some { cls := .type "tuple", data := .seq #[v1, v2] } := (sb.2 _ (Nat.ne_of_gt hzl)).trans hT
    have new : ObjOk X.prog X.w (upd H s.heap.objs.size (.tup [x, y])) h3 s.heap.objs.size (.tup [x, y]) :=
      ⟨by show 2 ≤ sizeLine; decide, [v1, v2], .cons ru (.cons ru2 .nil), _, hT2, rfl, _, rfl⟩
    have J : Inv X pins σ (upd H s.heap.objs.size (.tup [x, y])) { s with heap := h3, toks := tk } :=
      I.turnedNew (ch := [z, TI, TO, i1, i2]) (fun c o hb q => by
        simp only [List.mem_cons, List.not_mem_nil, or_false, not_or] at hb
        obtain ⟨n1, n2, n3, n4, n5⟩ := hb
        exact (sb.2 c n1).trans (hk c o n1 n3 n4 n5 q)) hf (Nat.le_refl _) new
    refine ⟨.ref s.heap.objs.size, _, J, rfl, ⟨_, x, y, rfl, I.hok.fresh (Nat.le_refl _), rfl, fun l hl => by rw [I.tuple_inj hl hqx]; exact hx, fun l hl => by rw [I.list_inj hl hqy]; exact hy⟩, ⟨z3, ?_, ⟨v1, v2, ?_⟩, ?_, ?_⟩, fun c hcm => ?_⟩
    · exact (sb.2 _ D.TIz).trans (hk _ _ D.TIz D.TITO D.TIi1 D.TIi2 hTI)
    · exact (sb.2 _ D.TOz).trans TO'
    · exact s1.1.at fun o q => (sb.2 _ D.i1z).trans q
    · exact s2.1.at fun o q => (sb.2 _ D.i2z).trans q
    · have lt_c : c < s.heap.objs.size := by
        simp only [List.mem_cons, List.not_mem_nil, or_false] at hcm
        rcases hcm with rfl | rfl | rfl | rfl | rfl
        · exact hzl
        · exact Heap.lt_size hTI
        · exact Heap.lt_size hTO
        · obtain ⟨_, e1, _⟩ := h1
          exact Heap.lt_size e1
        · obtain ⟨_, e2, _⟩ := h2
          exact Heap.lt_size e2
      rw [upd_ne (Nat.ne_of_lt lt_c)]
      exact (hf c hcm).1
  done := by
    intro X hP hw hK hc i pins s σ H E I hf st hg
    subst hP hw hK
    obtain ⟨hz, hTI, ⟨x0, y0, hTO⟩, h1, h2⟩ := st
    obtain ⟨xs, ys, hqx, hqy, lx, ly⟩ := hg
    obtain ⟨its, rv, p, _⟩ := I.tuple hqx
    obtain ⟨its2, rv2, p2, _⟩ := I.list hqy
    have hA : X.A.in1.handled = none := I.ok.hd hc
    have e1 : i = its.toArray.size := by
      rw [List.size_toArray, ← rv.length]
      exact lx.symm
    have e2 : i = its2.toArray.size := by
      rw [List.size_toArray, ← rv2.length]
      exact ly.symm
    exact wpAny_pyNext_zipD2_end (apart_sep D) (Draws.tuple hA i1 a D.l1i1 its.toArray) (Draws.list hA i2 b D.l2i2 its2.toArray) hz hTI hTO ⟨h1, p⟩ ⟨h2, p2.isList⟩ (Nat.le_of_eq e1) (Nat.le_of_eq e2) (.inl e1) fun h' tk hk =>
      ⟨rfl, I.turnedL (ch := [z, TI, TO, i1, i2]) (fun c o hb q => by
        simp only [List.mem_cons, List.not_mem_nil, or_false, not_or] at hb
        obtain ⟨n1, n2, n3, n4, n5⟩ := hb
        exact hk c o n1 n3 n4 n5 q) hf⟩
  self := fun A i s Q E st h => wpAny_pyIter_zip st.1 h
/-- the new cells of such a zip -/
theorem zipM_begins {prog : Program} {w : World} {A : Around} {E : Value → Shared → Prop} {s : Shared} {a b : Addr} {xs ys : Array Value} {Q : Value → Shared → Prop} (ha : s.heap.IsTuple a xs) (hb : s.heap.IsList b ys)
    (h : ∀ h', ZipApart (s.heap.objs.size + 4) (s.heap.objs.size + 2) (s.heap.objs.size + 3) s.heap.objs.size (s.heap.objs.size + 1) a b → IsZip h' (s.heap.objs.size + 4) (s.heap.objs.size + 2) (s.heap.objs.size + 3) .none →
      IsTupOf2 h' (s.heap.objs.size + 2) (.ref s.heap.objs.size) (.ref (s.heap.objs.size + 1)) → IsTupOf2 h' (s.heap.objs.size + 3) .none .none → h'.IsTupleIter s.heap.objs.size a 0 → h'.IsListIter (s.heap.objs.size + 1) b 0 →
      h'.objs.size = s.heap.objs.size + 5 → (∀ c o, s.heap.get? c = some o → h'.get? c = some o) → Q (.ref (s.heap.objs.size + 4)) { s with heap := h' }) :
    wpAny (model prog w) A (call (.type "zip") [.ref a, .ref b]) Q E s := by
  refine zip_begins2 (begins_tuple a xs) (begins_list b ys) ha hb fun h' hz hTI hTO g1 g2 sz hk => ?_
  obtain ⟨o1, ho1, _⟩ := id ha
  obtain ⟨o2, ho2, _⟩ := id hb
  exact h h' (PySem.W.ktu_apart s.heap.objs.size a b (Heap.lt_size ho1) (Heap.lt_size ho2)) hz hTI hTO ⟨_, g1, rfl, rfl⟩ ⟨_, g2, rfl, rfl⟩ sz hk
def iZipM (K : PySem.W.Frag) (ta : TA) : TI := fun σ H R => ta σ H fun vs H1 => ∃ a b xs ys, vs = [.ref a, .ref b] ∧ SqT K H1 a xs ∧ SqL K H1 b ys ∧ R (ItzM K a b) H1
/-- for x, y in zip(t, l), t a tuple, l a list -/
theorem pi_zipM {X : Cx} {e e2 : Expr} {ta : TA} {p pos tpos : Pos} {elts : List Expr} {kk : Nat} (hg : Gl X "zip") (hm : X.mg "zip" = none) (ha : PA X [e, e2] ta)
    (hs : starEach [e, e2] X.env = (false, eval e X.env) :: starEach [e2] X.env := by rfl) (hpl : (backTo pos (starEach [e2] X.env)).any (·.1) = false := by rfl) :
    PI X (.Tuple elts kk tpos) (.Call (.Name "zip" p) [e, e2] [] pos) (iZipM X.K ta) := by
  refine ⟨fun pins s σ H R I h => Call_ (ld_blt I hg hm PyProof.Rows.boot_zip (PyProof.Rows.callWith_type1 (thn (ha.run pos pins s σ H _ I h) fun us s1 ⟨vs, H1, I1, r1, q1⟩ => ?_) hs hpl))⟩
  obtain ⟨a, b, xs, ys, ex, hqx, hqy, q⟩ := q1
  subst ex
  cases r1 with
  | cons r rr =>
    cases rr with
    | cons r' rr =>
      cases rr
      cases r
      cases r'
      obtain ⟨its, rv, p1, _⟩ := I1.tuple hqx
      obtain ⟨its2, rv2, p2, _⟩ := I1.list hqy
      refine zipM_begins p1 p2.isList fun h' D hz hTI hTO h1 h2 sz hk => wpAny_pyIter_zip hz ?_
      have J : Inv X pins σ H1 { s1 with heap := h' } := I1.kept (t' := s1.toks) hk
      refine ⟨s1.heap.objs.size + 4, [s1.heap.objs.size + 4, s1.heap.objs.size + 2, s1.heap.objs.size + 3, s1.heap.objs.size, s1.heap.objs.size + 1], _, _, H1, rfl, J, turn_zipM D, ⟨hz, hTI, ⟨_, _, hTO⟩, h1, h2⟩, fun c hcm => ?_, q⟩
      have le_c : s1.heap.objs.size ≤ c := by
        simp only [List.mem_cons, List.not_mem_nil, or_false] at hcm
        rcases hcm with rfl | rfl | rfl | rfl | rfl
        · exact Nat.le_add_right _ _
        · exact Nat.le_add_right _ _
        · exact Nat.le_add_right _ _
        · exact Nat.le_refl _
        · exact Nat.le_add_right _ _
      exact I1.fpOk le_c (I1.hok.fresh le_c)
end Ow
set_option Elab.async false
set_option linter.all false
set_option maxRecDepth 100000
namespace Ow
open PySem PySem.Spec PyProof.Rows L2
/-! ### dict(zip(tuple, list)) -/
section
variable {prog : Program} {w : World} {A : Around} {E : Value → Shared → Prop} {s : Shared} {z TI TO T i1 i2 : Addr} {f : Bool} {oT : Obj} {fp1 fp2 : List Addr} {n1 n2 i : Nat} {P1 P2 : Nat → Value → Prop} {St1 St2 : Nat → Heap → Prop}
/-- zip's next while the pair that it gave out before is still held: both iterators are drawn, the pair is new -/
theorem held_item {Q : Value → Shared → Prop} (S : ZipSep2 z TI TO i1 i2 fp1 fp2) (D1 : Draws prog w A i1 fp1 n1 P1 St1) (D2 : Draws prog w A i2 fp2 n2 P2 St2)
    (hz : IsZipHeld s.heap z TI TO T f) (hT : s.heap.get? T = some oT) (hTI : IsTupOf2 s.heap TI (.ref i1) (.ref i2)) (st1 : St1 i s.heap) (st2 : St2 i s.heap) (lt1 : i < n1) (lt2 : i < n2)
    (hQ : ∀ x1 x2 h' tk, P1 i x1 → P2 i x2 → IsZipHeld h' z TI TO T true → St1 (i + 1) h' → St2 (i + 1) h' → IsTupOf2 h' s.heap.objs.size x1 x2 →
      (∀ c o, c ≠ z → c ≠ i1 → c ≠ i2 → s.heap.get? c = some o → h'.get? c = some o) → Q (.ref s.heap.objs.size) { s with heap := h', toks := tk }) :
    wpAny (model prog w) A (Builtin.«zip.__next__» ⟨[.ref z], []⟩) (fun fin s' => ∃ v, fin = .done (.ret v) ∧ Q v s') E s := by
  obtain ⟨hp, gn, dr, tk0, os⟩ := s
  refine wpAny_bind (m := field (.ref z) 2) (wpAny_field hz rfl (x := .bool false) rfl ?_)
  refine wpAny_bind (m := field (.ref z) 3) (wpAny_field hz rfl (x := .ref TI) rfl ?_)
  refine wpAny_bind (wpAny_seqItems hTI rfl ?_)
  refine wpAny_bind (m := Builtin.SmallTypes.ownedTupleIsFree (.ref z)) (wpAny_tupleHeld_zip hz hT fun u0 z0 b0 => ?_)
  replace b0 : Heap.SameBut z hp u0 := b0
  simp only [Bool.false_eq_true, if_false]
  refine wpAny_bind ?_
  rw [← Array.forIn_toList]
  simp only [List.forIn_cons, List.forIn_nil]
  refine wpAny_bind (wpAny_bind (wpAny_holding ?_))
  refine wpAny_bind (m := Builtin.SmallTypes.nextOf (.ref i1)) (D1.item i ⟨u0, gn, dr, tk0, os⟩ _ _ lt1 (D1.over st1 b0 S.zf1) fun x1 u1 tk1 p1 s1 b1 => wpAny_pure ?_)
  replace b1 : Heap.SameBut i1 u0 u1 := b1
  refine wpAny_pure ?_
  refine wpAny_bind (wpAny_bind (wpAny_holding ?_))
  refine wpAny_bind (m := Builtin.SmallTypes.nextOf (.ref i2)) (D2.item i ⟨u1, gn, dr, tk1, os⟩ _ _ lt2 (D2.over (D2.over st2 b0 S.zf2) b1 S.sep1_2) fun x2 u2 tk2 p2 s2 b2 => wpAny_pure ?_)
  replace b2 : Heap.SameBut i2 u1 u2 := b2
  refine wpAny_pure (wpAny_pure ?_)
  refine wpAny_bind (m := newTuple [x1, x2]) (wpAny_newTuple ?_)
  have sz : u2.objs.size = hp.objs.size := by rw [b2.1, b1.1, b0.1]
  have z2 : IsZipHeld u2 z TI TO T true := b2.extBut _ _ S.zi2 (b1.extBut _ _ S.zi1 z0)
  have kp : ∀ c o, c ≠ z → c ≠ i1 → c ≠ i2 → hp.get? c = some o → u2.get? c = some o := fun c o c1 c2 c3 e => b2.extBut _ _ c3 (b1.extBut _ _ c2 (b0.extBut _ _ c1 e))
  refine wpAny_pure ⟨_, rfl, ?_⟩
  show Q (.ref u2.objs.size) _
  have new : IsTupOf2 (u2.push { cls := .type "tuple", data := .seq #[x1, x2] }) u2.objs.size x1 x2 := Heap.get?_push_size _ rfl
  rw [sz] at new ⊢
  refine hQ x1 x2 _ tk2 p1 p2 (Heap.get?_push_of_some _ z2) ?_ ?_ new fun c o c1 c2 c3 e => Heap.get?_push_of_some _ (kp c o c1 c2 c3 e)
  · exact D1.frame _ _ _ (D1.over s1 b2 S.sep2_1) fun b _ o e => Heap.get?_push_of_some _ e
  · exact D2.frame _ _ _ s2 fun b _ o e => Heap.get?_push_of_some _ e
/-- .. at the end of the first -/
theorem held_end {Q : Fin → Shared → Prop} (S : ZipSep2 z TI TO i1 i2 fp1 fp2) (D1 : Draws prog w A i1 fp1 n1 P1 St1)
    (hz : IsZipHeld s.heap z TI TO T f) (hT : s.heap.get? T = some oT) (hTI : IsTupOf2 s.heap TI (.ref i1) (.ref i2)) (st1 : St1 n1 s.heap)
    (hE : ∀ h' e, (∀ c o, c ≠ z → c ≠ i1 → s.heap.get? c = some o → h'.get? c = some o) → (∃ o, h'.get? e = some o ∧ o.cls = .type "StopIteration") → E (.ref e) { s with heap := h' }) :
    wpAny (model prog w) A (Builtin.«zip.__next__» ⟨[.ref z], []⟩) Q E s := by
  obtain ⟨hp, gn, dr, tk0, os⟩ := s
  refine wpAny_bind (m := field (.ref z) 2) (wpAny_field hz rfl (x := .bool false) rfl ?_)
  refine wpAny_bind (m := field (.ref z) 3) (wpAny_field hz rfl (x := .ref TI) rfl ?_)
  refine wpAny_bind (wpAny_seqItems hTI rfl ?_)
  refine wpAny_bind (m := Builtin.SmallTypes.ownedTupleIsFree (.ref z)) (wpAny_tupleHeld_zip hz hT fun u0 z0 b0 => ?_)
  replace b0 : Heap.SameBut z hp u0 := b0
  simp only [Bool.false_eq_true, if_false]
  refine wpAny_bind ?_
  rw [← Array.forIn_toList]
  simp only [List.forIn_cons, List.forIn_nil]
  refine wpAny_bind (wpAny_bind (wpAny_holding ?_))
  refine wpAny_bind (m := Builtin.SmallTypes.nextOf (.ref i1)) (D1.done ⟨u0, gn, dr, tk0, os⟩ _ _ (D1.over st1 b0 S.zf1) fun u1 e b1 he => ?_)
  exact hE u1 e (fun c o c1 c2 x => b1 _ _ c2 (b0.extBut _ _ c1 x)) he
theorem heldN_item {Q : Option Value → Shared → Prop} (S : ZipSep2 z TI TO i1 i2 fp1 fp2) (D1 : Draws prog w A.in1 i1 fp1 n1 P1 St1) (D2 : Draws prog w A.in1 i2 fp2 n2 P2 St2)
    (hz : IsZipHeld s.heap z TI TO T f) (hT : s.heap.get? T = some oT) (hTI : IsTupOf2 s.heap TI (.ref i1) (.ref i2)) (st1 : St1 i s.heap) (st2 : St2 i s.heap) (lt1 : i < n1) (lt2 : i < n2)
    (hQ : ∀ x1 x2 h' tk, P1 i x1 → P2 i x2 → IsZipHeld h' z TI TO T true → St1 (i + 1) h' → St2 (i + 1) h' → IsTupOf2 h' s.heap.objs.size x1 x2 →
      (∀ c o, c ≠ z → c ≠ i1 → c ≠ i2 → s.heap.get? c = some o → h'.get? c = some o) → Q (some (.ref s.heap.objs.size)) { s with heap := h', toks := tk }) :
    wpAny (model prog w) A (pyNext (.ref z)) Q E s := by
  have ty : s.TypeIs (.ref z) "zip" := ⟨_, hz, rfl⟩
  unfold pyNext
  refine wpAny_bind (wpAny_attempt (wpAny_callSpecial?_slot (name := Str.ofString "__next__") ty F.slot_zip_next (wpAny_call_entry F.slot_zip_next ty F.entry_zip_next ?_ (F.args_zip_next_1 _))))
  exact held_item S D1 D2 hz hT hTI st1 st2 lt1 lt2 fun x1 x2 h' tk q1 q2 q3 q4 q5 q6 q7 => wpAny_pure (hQ x1 x2 h' tk q1 q2 q3 q4 q5 q6 q7)
theorem heldN_end {Q : Option Value → Shared → Prop} (S : ZipSep2 z TI TO i1 i2 fp1 fp2) (D1 : Draws prog w A.in1 i1 fp1 n1 P1 St1)
    (hz : IsZipHeld s.heap z TI TO T f) (hT : s.heap.get? T = some oT) (hTI : IsTupOf2 s.heap TI (.ref i1) (.ref i2)) (st1 : St1 n1 s.heap)
    (hQ : ∀ h', (∀ c o, c ≠ z → c ≠ i1 → s.heap.get? c = some o → h'.get? c = some o) → Q none { s with heap := h' }) : wpAny (model prog w) A (pyNext (.ref z)) Q E s := by
  have ty : s.TypeIs (.ref z) "zip" := ⟨_, hz, rfl⟩
  unfold pyNext
  refine wpAny_bind (wpAny_attempt (wpAny_callSpecial?_slot (name := Str.ofString "__next__") ty F.slot_zip_next (wpAny_call_entry F.slot_zip_next ty F.entry_zip_next (held_end S D1 hz hT hTI st1 fun h' e hk he => ?_) (F.args_zip_next_1 _))))
  obtain ⟨o, ho, hc⟩ := he
  exact wpAny_bind (wpAny_isInstance (T := "StopIteration") (b := true) ⟨o, ho, hc⟩ isSubtype_stop (wpAny_pure (hQ _ hk)))
end
section
variable {prog : Program} {w : World}
/-- such a zip as the argument of dict() -/
theorem zipM_arg (z TI TO i1 i2 a b : Addr) (D : ZipApart z TI TO i1 i2 a b) (xs ys : Array Value) (hl : xs.size = ys.size) :
    PairArg prog w "zip" z [z, TI, TO, i1, i2, a, b] [z, TO, i1, i2] xs.size (fun i k v => xs[i]? = some k ∧ ys[i]? = some v)
      (fun h => IsZip h z TI TO .none ∧ IsTupOf2 h TI (.ref i1) (.ref i2) ∧ (∃ x y, IsTupOf2 h TO x y) ∧ h.IsTupleIter i1 a 0 ∧ h.IsListIter i2 b 0 ∧ h.IsTuple a xs ∧ h.IsList b ys) where
  type := fun s ok => ⟨_, ok.1, rfl⟩
  notDict := by decide
  keep := by
    rintro h h' ⟨hz, hTI, ⟨x, y, hTO⟩, h1, h2, g1, g2⟩ hk
    exact ⟨hk _ _ hz, hk _ _ hTI, ⟨x, y, hk _ _ hTO⟩, h1.at fun o e => hk _ o e, h2.at fun o e => hk _ o e, g1.at fun o e => hk _ o e, g2.at fun o e => hk _ o e⟩
  there := by
    rintro h ⟨hz, hTI, ⟨x, y, hTO⟩, ⟨o1, h1, _⟩, ⟨o2, h2, _⟩, ⟨o3, g1, _⟩, ⟨o4, g2, _⟩⟩ c hc
    simp only [List.mem_cons, List.not_mem_nil, or_false] at hc
    rcases hc with rfl | rfl | rfl | rfl | rfl | rfl | rfl
    · exact ⟨_, hz⟩
    · exact ⟨_, hTI⟩
    · exact ⟨_, hTO⟩
    · exact ⟨_, h1⟩
    · exact ⟨_, h2⟩
    · exact ⟨_, g1⟩
    · exact ⟨_, g2⟩
  sub := by
    intro c hc
    simp only [List.mem_cons, List.not_mem_nil, or_false] at hc ⊢
    rcases hc with e | e | e | e
    · exact .inl e
    · exact .inr (.inr (.inl e))
    · exact .inr (.inr (.inr (.inl e)))
    · exact .inr (.inr (.inr (.inr (.inl e))))
  noKeys := fun A s Q E hA ok h => getAttrOr_miss_zip ok.1 rfl rfl rfl zip_no_keys (by decide +kernel) hA h
  iter := by
    intro A s d Q E hA ok hd hdf h
    obtain ⟨hz, hTI, ⟨x, y, hTO⟩, h1, h2, g1, g2⟩ := ok
    simp only [List.mem_cons, List.not_mem_nil, or_false, not_or] at hdf
    obtain ⟨dz, dTI, dTO, di1, di2, da, db⟩ := hdf
    have hA1 : A.in1.handled = none := hA
    have S := apart_sep D
    have D1 := Draws.tuple (prog := prog) (w := w) hA1 i1 a D.l1i1 xs
    have D2 := Draws.list (prog := prog) (w := w) hA1 i2 b D.l2i2 ys
    refine wpAny_pyIter_zip hz (h z [z, TO, i1, i2] (fun i h => IsTupOf2 h TI (.ref i1) (.ref i2) ∧ (h.IsTupleIter i1 a i ∧ h.IsTuple a xs) ∧ (h.IsListIter i2 b i ∧ h.IsList b ys) ∧
      ((IsZip h z TI TO .none ∧ ∃ x y, IsTupOf2 h TO x y) ∨ ∃ T f oT, IsZipHeld h z TI TO T f ∧ h.get? T = some oT ∧ T ≠ z ∧ T ≠ i1 ∧ T ≠ i2 ∧ T ≠ d)) s.heap s.toks ?_
      ⟨hTI, ⟨h1, g1⟩, ⟨h2, g2⟩, .inl ⟨hz, x, y, hTO⟩⟩ (fun _ _ e => e) fun c hc => .inl hc)
    constructor
    · intro hm
      simp only [List.mem_cons, List.not_mem_nil, or_false] at hm
      rcases hm with e | e | e | e
      · exact dz e
      · exact dTO e
      · exact di1 e
      · exact di2 e
    · rintro i u v ⟨hTI, ⟨h1, g1⟩, ⟨h2, g2⟩, hz⟩ hk
      refine ⟨hk _ _ (Ne.symm dTI) hTI, ⟨h1.at fun o e => hk _ o (Ne.symm di1) e, g1.at fun o e => hk _ o (Ne.symm da) e⟩, ⟨h2.at fun o e => hk _ o (Ne.symm di2) e, g2.at fun o e => hk _ o (Ne.symm db) e⟩, ?_⟩
      rcases hz with ⟨hz, x, y, hTO⟩ | ⟨T, f, oT, hz, hT, r1, r2, r3, r4⟩
      · exact .inl ⟨hk _ _ (Ne.symm dz) hz, x, y, hk _ _ (Ne.symm dTO) hTO⟩
      · exact .inr ⟨T, f, oT, hk _ _ (Ne.symm dz) hz, hk _ _ r4 hT, r1, r2, r3, r4⟩
    · intro i t Q1 E1 hi st hds hQ
      obtain ⟨hTI, s1, s2, hz⟩ := st
      have lt : ∀ {c o}, t.heap.get? c = some o → t.heap.objs.size ≠ c := fun e => Nat.ne_of_gt (Heap.lt_size e)
      have n1 : t.heap.objs.size ≠ i1 := by
        obtain ⟨_, e, _⟩ := s1.1
        exact lt e
      have n2 : t.heap.objs.size ≠ i2 := by
        obtain ⟨_, e, _⟩ := s2.1
        exact lt e
      have hi2 : i < ys.size := by omega
      rcases hz with ⟨hz, x, y, hTO⟩ | ⟨T, f, oT, hz, hT, r1, r2, r3, r4⟩
      · refine wpAny_pyNext_zipD2_item S D1 D2 hz hTI hTO s1 s2 hi hi2 fun v1 v2 h' tk q1 q2 z' TO' s1' s2' hN sz hk => ?_
        refine hQ t.heap.objs.size v1 v2 h' tk ⟨q1, q2⟩ (.inl ⟨_, hN, rfl, _, rfl⟩) ⟨hk _ _ D.TIz D.TITO D.TIi1 D.TIi2 hTI, s1', s2', .inr ⟨t.heap.objs.size, false, _, z', hN, lt hz, n1, n2, Nat.ne_of_gt hds⟩⟩ fun c o hc e => ?_
        simp only [List.mem_cons, List.not_mem_nil, or_false, not_or] at hc
        exact hk c o hc.1 hc.2.1 hc.2.2.1 hc.2.2.2 e
      · refine heldN_item S D1 D2 hz hT hTI s1 s2 hi hi2 fun v1 v2 h' tk q1 q2 z' s1' s2' hN hk => ?_
        refine hQ t.heap.objs.size v1 v2 h' tk ⟨q1, q2⟩ (.inl ⟨_, hN, rfl, _, rfl⟩) ⟨hk _ _ D.TIz D.TIi1 D.TIi2 hTI, s1', s2', .inr ⟨T, true, oT, z', hk _ _ r1 r2 r3 hT, r1, r2, r3, r4⟩⟩ fun c o hc e => ?_
        simp only [List.mem_cons, List.not_mem_nil, or_false, not_or] at hc
        exact hk c o hc.1 hc.2.2.1 hc.2.2.2 e
    · intro t Q1 E1 st hQ
      obtain ⟨hTI, s1, s2, hz⟩ := st
      rcases hz with ⟨hz, x, y, hTO⟩ | ⟨T, f, oT, hz, hT, r1, r2, r3, r4⟩
      · refine wpAny_pyNext_zipD2_end S D1 D2 hz hTI hTO s1 s2 (Nat.le_refl _) (Nat.le_of_eq hl) (.inl rfl) fun h' tk hk => hQ h' tk fun c o hc e => ?_
        simp only [List.mem_cons, List.not_mem_nil, or_false, not_or] at hc
        exact hk c o hc.1 hc.2.1 hc.2.2.1 hc.2.2.2 e
      · refine heldN_end S D1 hz hT hTI s1 fun h' hk => hQ h' t.toks fun c o hc e => ?_
        simp only [List.mem_cons, List.not_mem_nil, or_false, not_or] at hc
        exact hk c o hc.1 hc.2.2.1 e
end
theorem kv_zip : ∀ {kvs : List (Key × V)} {us : List Value}, Vals (kvs.map fun q => q.2) us → KV kvs ((kvs.map fun q => q.1).zip us)
  | [], us, r => by
    cases r
    exact .nil
  | q :: kvs, us, r => by
    cases r with
    | cons r t => exact .cons ⟨rfl, r⟩ (kv_zip t)
theorem keys_is {P : Program} {w : World} : ∀ {kvs : List (Key × V)} {us ws : List Value}, Vals (kvs.map fun q => kV q.1) us → ws.length = kvs.length → ∀ (i : Nat) (k v : Value), us[i]? = some k → ws[i]? = some v →
    ∃ q, ((kvs.map fun q => q.1).zip ws)[i]? = some (q, v) ∧ (mixKind P w).is q k = true
  | [], us, ws, r, hl, i, k, v, h1, h2 => by
    cases r
    simp at h1
  | q :: kvs, us, ws, r, hl, i, k, v, h1, h2 => by
    cases r with
    | cons r t =>
      cases ws with
      | nil => simp at h2
      | cons w0 ws =>
        cases i with
        | zero =>
          simp at h1 h2
          subst h1 h2
          exact ⟨q.1, rfl, kV_is r⟩
        | succ i =>
          obtain ⟨p, e1, e2⟩ := keys_is (kvs := kvs) t (by simpa using hl) i k v (by simpa using h1) (by simpa using h2)
          exact ⟨p, by simpa using e1, e2⟩
def tDictZip (K : PySem.W.Frag) (ta : TA) : TE := fun σ H Q => ta σ H fun vs H1 => ∃ (a b : Addr) (kvs : List (Key × V)), vs = [.ref a, .ref b] ∧ SqT K H1 a (kvs.map fun q => kV q.1) ∧ SqL K H1 b (kvs.map fun q => q.2) ∧
  ∀ p, H1 p = none → Q (.ref p) (upd H1 p (.dK (mergeK [] kvs)))
/-- dict(zip(t, l)), t a tuple of keys, l a list of as many values -/
theorem pe_dictZip {X : Cx} {e e2 : Expr} {ta : TA} {p p2 pos pos2 : Pos} (hcalm : X.calm = true) (hd : Gl X "dict") (md : X.mg "dict" = none) (hg : Gl X "zip") (hm : X.mg "zip" = none) (ha : PA X [e, e2] ta)
    (hs0 : starEach [.Call (.Name "zip" p2) [e, e2] [] pos2] X.env = [(false, eval (.Call (.Name "zip" p2) [e, e2] [] pos2) X.env)] := by rfl)
    (hs : starEach [e, e2] X.env = (false, eval e X.env) :: starEach [e2] X.env := by rfl) (hpl : (backTo pos2 (starEach [e2] X.env)).any (·.1) = false := by rfl) :
    PE X (.Call (.Name "dict" p) [.Call (.Name "zip" p2) [e, e2] [] pos2] [] pos) (tDictZip X.K ta) := by
  refine ⟨fun pins s σ H Q I h => Call_ (ld_blt I hd md (u := .type "dict") (by decide +kernel) (PyProof.Rows.callWith_type1 (rest := []) ?_ hs0 rfl))⟩
  refine Calls.spliced_cons ?_
  refine Call_ (ld_blt I hg hm PyProof.Rows.boot_zip (PyProof.Rows.callWith_type1 (thn (ha.run pos2 pins s σ H _ I h) fun us s1 ⟨vs, H1, I1, r1, q1⟩ => ?_) hs hpl))
  obtain ⟨a, b, kvs, ex, hqx, hqy, q⟩ := q1
  subst ex
  cases r1 with
  | cons r rr =>
    cases rr with
    | cons r' rr =>
      cases rr
      cases r
      cases r'
      obtain ⟨its, rv, p1, z1⟩ := I1.tuple hqx
      obtain ⟨its2, rv2, p3, z2⟩ := I1.list hqy
      have l1 := rv.length
      have l2 := rv2.length
      rw [List.length_map] at l1 l2 z1
      refine zipM_begins p1 p3.isList fun h' D hz hTI hTO g1 g2 sz hk => ?_
      have J : Inv X pins σ H1 { s1 with heap := h' } := I1.kept (t' := s1.toks) hk
      refine Calls.spliced_nil ?_
      refine PySem.call_dict_pairs (knd := mixKind X.prog X.w) (kvs := (kvs.map fun q => q.1).zip its2) (s := { s1 with heap := h' }) (zipM_arg _ _ _ _ _ a b D its.toArray its2.toArray (by rw [List.size_toArray, List.size_toArray, ← l1, l2])) (I.ok.hd hcalm)
        ⟨hz, hTI, ⟨_, _, hTO⟩, g1, g2, (show s1.heap.IsTuple a its.toArray from p1).at fun o e => hk _ o e, p3.isList.at fun o e => hk _ o e⟩ ⟨?_, fun i k v hr => ?_⟩ ?_ fun h3 tk hd3 hk3 => ?_
      · rw [List.size_toArray, List.length_zip, List.length_map]
        omega
      · exact keys_is rv (l2.symm) i k v (by simpa using hr.1) (by simpa using hr.2)
      · rw [List.size_toArray, ← l1]
        exact z1
      · have hm : (h'.objs.size == sysModules) = false := beq_eq_false_iff_ne.mpr (Nat.ne_of_gt J.big)
        have hlen : (mergeK [] kvs).length ≤ sizeLine := by
          refine Nat.le_trans (length_mergeK kvs []) ?_
          rw [List.length_nil, Nat.zero_add]
          exact z1
        have k4 : ∀ c o, s1.heap.get? c = some o → h3.get? c = some o := fun c o e => by
          refine hk3 c o ?_ (hk c o e)
          have lt_c := Heap.lt_size e
          have lt_c' : (c : Nat) < s1.heap.objs.size := lt_c
          simp only [List.mem_cons, List.not_mem_nil, or_false, not_or]
          refine ⟨?_, ?_, ?_, ?_⟩
          · exact Nat.ne_of_lt (Nat.lt_of_lt_of_le lt_c' (Nat.le_add_right _ _))
          · exact Nat.ne_of_lt (Nat.lt_of_lt_of_le lt_c' (Nat.le_add_right _ _))
          · exact Nat.ne_of_lt lt_c'
          · exact Nat.ne_of_lt (Nat.lt_of_lt_of_le lt_c' (Nat.le_add_right _ _))
        have le_h : s1.heap.objs.size ≤ h'.objs.size := by
          rw [sz]
          exact Nat.le_add_right _ _
        refine ⟨.ref h'.objs.size, upd H1 h'.objs.size (.dK (mergeK [] kvs)), I1.laid (t' := tk) k4 le_h ?_, rfl, q _ (I1.hok.fresh le_h)⟩
        exact (show ObjOk X.prog X.w _ _ _ (.dK (mergeK [] kvs)) from ⟨hlen, hm, _, KV.merge (kv_zip rv2) .nil, hd3⟩)
end Ow
set_option Elab.async false
set_option linter.all false
set_option maxRecDepth 100000
namespace Ow
open PySem PySem.Spec PyProof.Rows L2
/-! ### f(k = v) with keywords alone -/
section
variable {X : Cx} {CX : CXT} {k : Nat} {f : Addr} {fd : FuncData} {ps ks : List Str} {sp : Sp} {E : XK} {x : Str} {p pos : Pos} {kws : List Keyword} {tk : TA} {g : List Value → List Value → List Value} {gV : List V → List V → List V}
theorem pe_callKw (F : FnOk X.prog X.w X.K X.mg X.base CX k f fd ps sp) (hr : Room k X.A) (hg : Gl X x) (hm : X.mg x = some (.ref f)) (hk : PySem.W.keepIn X.K (.ref f) = true) (hb : KBn X.K fd ps 0 ks g gV) (hx : Passes CX X E)
    (hkw : PK X kws tk) (hall : (backToKw pos (keywordEach kws X.env)).all (·.1.isSome) = true := by rfl) (hks : (backToKw pos (keywordEach kws X.env)).filterMap (·.1) = ks := by rfl)
    (hdb : (x == ("__debug__" : Str)) = false := by decide) (hpl : ((backTo pos (starEach [] X.env)).any (·.1) || (backToKw pos (keywordEach kws X.env)).any (·.1.isNone)) = false := by rfl) :
    PE X (.Call (.Name x p) [] kws pos) (tCallN 0 ks.length sp gV E tNil tk) := by
  refine ⟨fun pins s σ H Q I h => wpAny_Call_Name_kw (ld_glob I hg hm (PySem.W.callWith_KW0 (h₀ := X.base) I.ok.mod.kin hk hall ?_ hpl) hdb)⟩
  refine thn (hkw.run pos pins s σ H _ I h) fun ws s2 ⟨zs, H2, I2, rz, l1, l2, q2⟩ => ⟨I2.kIn, ?_⟩
  rw [hks]
  exact run_fnN (us := []) (vs := []) F hr hb hx I2 .nil rz rfl l2 q2
end
/-! ### x != y by an own __eq__ -/
theorem slot_ne : PySem.Slot "object" "__ne__" "object.__ne__" :=
  .of (T := "object") (name := "__ne__") (owner := "object") (n := "__ne__") (by rw [typeLookup_type, builtinLookup_eq_fast]; kernel_rfl) (by decide +kernel) (by decide +kernel) (by decide +kernel)
    (.inl (by decide +kernel)) (by rw [isSubtype_type]; kernel_rfl)
section
variable {prog : Program} {w : World} {A : Around} {E : Value → Shared → Prop} {s : Shared} {K : PySem.W.Frag} {x C f : Addr} {ox : Obj} {od : Option Obj} {b : Value}
theorem call_ne {Q : Value → Shared → Prop} (hu : A.in1.units < cLine) (X : K.In s.heap) (I : PySem.W.InstAt s.heap x ox C od) (hm : PySem.W.mroIn K C (.type "object") = some true)
    (hs : PySem.W.findIn K (.ref C) "__eq__" = some (some (.ref f))) (hf : PySem.W.isFn K (.ref f) = true)
    (h : wpAny (model prog w) A.in1 (call (.ref f) [.ref x, b]) (fun v s' => ∃ r, v = .bool r ∧ Q (.bool (!r)) s') E s) : wpAny (model prog w) A (call (.builtin "object.__ne__") [.ref x, b]) Q E s := by
  refine wpAny_call (codeAny_call_builtin slot_ne.plain F.cmpEntry_ne (PySem.W.check_slot (i := "object.__ne__") (owner := "object") (n := "__ne__") (by decide +kernel) (by decide +kernel) (I.type.andThen (PySem.W.looks_mroIn X hm)) (F.cmpArgs_ne _ _) ?_))
  unfold Builtin.«object.__ne__»
  refine wpAny_bind (m := slotArgs "__ne__" 1 _) (wpAny_pure ?_)
  refine wpAny_bind (m := cRoomFor _ _) (wpAny_cRoomFor hu ?_)
  refine wpAny_bind (m := callSpecialIfBound? (.ref x) (Str.ofString "__eq__") _) (PySem.W.ifBound_K X I hs hf (wpAny_mono h (fun v s' hv => ?_) fun _ _ y => y))
  obtain ⟨r, rfl, q⟩ := hv
  exact wpAny_bind (wpAny_truthy_bool (wpAny_pure q))
theorem bound_slot {name : Str} {id : String} {T : String} {args : List Value} {Q : Option Value → Shared → Prop} (X : K.In s.heap) (I : PySem.W.InstAt s.heap x ox C od) (hs : PySem.W.findIn K (.ref C) name = some (some (.builtin id))) (S : PySem.Slot T name id)
    (h : wpAny (model prog w) A (call (.builtin id) (.ref x :: args)) (fun v => Q (some v)) E s) : wpAny (model prog w) A (callSpecialIfBound? (.ref x) name args) Q E s := by
  simp only [callSpecialIfBound?, bindSpecialIfBound?]
  refine wpAny_holding (wpAny_bind (wpAny_bind (wpAny_bind (I.type.here ((PySem.W.looks_findIn X hs).here ?_)))))
  simp only [S.bind]
  refine wpAny_bind (wpAny_askSetting (wpAny_ite ?_))
  have fin : wpAny (model prog w) A (call (.builtin id) ([.ref x] ++ args) >>= fun v => pure (some v)) Q E s := wpAny_bind (wpAny_mono h (fun v s' z => wpAny_pure z) fun _ _ z => z)
  split
  · exact wpAny_bind (wpAny_pure (wpAny_pure fin))
  · exact wpAny_tryCatch (wpAny_bind (wpAny_pure (wpAny_pure fin)))
theorem ne_own {Q : Value → Shared → Prop} {y : Addr} {oy : Obj} {odY : Option Obj} (hu0 : A.units < cLine) (hu : A.in1.units < cLine) (X : K.In s.heap) (I : PySem.W.InstAt s.heap x ox C od) (J : PySem.W.InstAt s.heap y oy C odY)
    (hm : PySem.W.mroIn K C (.type "object") = some true) (hn : PySem.W.findIn K (.ref C) "__ne__" = some (some (.builtin "object.__ne__"))) (hs : PySem.W.findIn K (.ref C) "__eq__" = some (some (.ref f))) (hf : PySem.W.isFn K (.ref f) = true)
    (h : wpAny (model prog w) A.in1 (call (.ref f) [.ref x, .ref y]) (fun v s' => ∃ r, v = .bool r ∧ Q (.bool (!r)) s') E s) : wpAny (model prog w) A (richCompare .NotEq (.ref x) (.ref y)) Q E s := by
  have one : wpAny (model prog w) A (tryCompare (.ref x) "__ne__" (.ref y)) (fun r s' => ∃ b, r = some (.bool b) ∧ Q (.bool b) s') E s := by
    unfold tryCompare
    refine wpAny_bind (bound_slot X I hn slot_ne (call_ne hu X I hm hs hf (wpAny_mono h (fun v s' hv => ?_) fun _ _ z => z)))
    obtain ⟨r, e, q⟩ := hv
    exact ⟨r, e, wpAny_pure ⟨!r, rfl, q⟩⟩
  unfold richCompare
  simp only [oneThing_ref]
  refine wpAny_holding (wpAny_bind (wpAny_cRoomFor hu0 ?_))
  refine wpAny_bind (I.type.here (wpAny_bind (J.type.here ?_)))
  simp only [bne_self_eq_false, Bool.false_eq_true, if_false]
  refine wpAny_bind (wpAny_pure ?_)
  simp only [Bool.false_eq_true, if_false]
  refine wpAny_bind (wpAny_mono one (fun r s' hr => ?_) fun _ _ z => z)
  obtain ⟨b, rfl, q⟩ := hr
  exact wpAny_pure q
end
section
variable {X : Cx} {n : Nat} {D : Eqv}
def rNeG (D : Eqv) : R2 := fun x y H Q => D x y H ∧ ∀ H', Ext H H' → Q (.bl false) H'
/-- x != y of two instances that the text's own == finds equal -/
theorem op_neOwn {CX : CXT} {C f : Addr} {fd : FuncData} {ps : List Str} {R : Addr → Addr → Hp → Prop} {E : XK} (F : FnOk X.prog X.w X.K X.mg X.base CX n f fd ps (spEq R)) (hr : Room (n + 1) X.A)
    (hs : PySem.W.findIn X.K (.ref C) "__eq__" = some (some (.ref f))) (hn : PySem.W.findIn X.K (.ref C) "__ne__" = some (some (.builtin "object.__ne__"))) (hm : PySem.W.mroIn X.K C (.type "object") = some true)
    (hf : PySem.W.isFn X.K (.ref f) = true) (hb : Binds X.K fd ps []) (hx : Passes CX X E) : OpR X (compareOp .NotEq) (rNeG (DIns C R)) := by
  intro pins s σ H x y v u Q I rx ry hq
  obtain ⟨⟨a, b, dx, dy, fs, gs, rfl, rfl, ha, hb', hR⟩, q⟩ := hq
  cases rx
  cases ry
  obtain ⟨mA, J, _⟩ := ins_get I.hok ha
  obtain ⟨mB, J', _⟩ := ins_get I.hok hb'
  obtain ⟨oA, J, _⟩ := J.look
  obtain ⟨oB, J', _⟩ := J'.look
  have sb : Sub X n X.A.in1 := Sub.in1 ⟨hr, rfl⟩
  show wpAny (model X.prog X.w) X.A (richCompare .NotEq (.ref a) (.ref b)) (EP X pins σ Q) X.xe s
  refine ne_own hr.units0 sb.room.units0 I.kIn J J' hm hn hs hf ?_
  have hsp : spEq R [.ref a, .ref b] H (fun v H' => v = .bl true ∧ Ext H H') E := ⟨a, b, rfl, hR, fun H' e => ⟨rfl, e⟩⟩
  have e0 : Env0 X.prog X.w X.K X.mg X.base X.A.in1 X.stack s H := by
    have e := I.env0
    exact ⟨by rw [sb.fr]; exact e.frames, e.mod, e.bs, e.bsz, e.funs, e.frf, e.hok, e.bare⟩
  have hl := F.len _ _ _ _ hsp
  have r2 : Vals [V.ref a, V.ref b] [Value.ref a, Value.ref b] := .cons rfl (.cons rfl .nil)
  have bt : BindsTo s fd ⟨[.ref a, .ref b], []⟩ (ps.zip [.ref a, .ref b]) := by
    have z := hb s [.ref a, .ref b] I.kIn (by simpa using hl)
    simpa using z
  refine wpAny_call (codeAny_mono (F.run X.A.in1 X.stack s H ⟨[.ref a, .ref b], []⟩ [.ref a, .ref b] [.ref a, .ref b] _ E sb.room e0 bt r2 hsp) fun r s' hq => ?_)
  cases r with
  | error e => exact hx pins σ H s e s' I hq
  | ok fl =>
    cases fl with
    | ret w =>
      obtain ⟨z, H', I', rz, ez, ex⟩ := I.after hq
      subst ez
      cases rz
      exact ⟨true, rfl, .bl false, H', I', rfl, q H' ex⟩
    | next => exact False.elim hq
    | brk => exact False.elim hq
    | cont => exact False.elim hq
end
end Ow
set_option Elab.async false
set_option linter.all false
set_option maxRecDepth 100000
namespace Ow
open PySem PySem.Spec PyProof.Rows L2
/-! ### sorted(xs, key = (len(x), x)) of tuples of whole numbers -/
abbrev natV (n : Nat) : V := .int (n : Int)
abbrev natD (n : Nat) : PyData := .int (n : Int)
/-- the key of a tuple of places -/
def keyD (l : List Nat) : PyData := .tuple [.int (l.length : Int), .tuple (l.map natD)]
def leK (k l : List Nat) : Bool := PySem.W.dataLe false keyD k l
theorem reads_ints {h : Heap} : ∀ {l : List Nat} {us : List Value}, Vals (l.map natV) us → ReadsAll h us (l.map natD) []
  | [], us, r => by
    cases r
    exact .nil
  | n :: l, us, r => by
    cases r with
    | cons r t =>
      obtain ⟨tk, rfl⟩ := r
      exact ReadsAll.cons (as := []) (.int _ tk) (reads_ints t)
theorem alike_ints : ∀ (l k : List Nat), PySem.W.alikeAll (l.map natD) (k.map natD) = true
  | [], k => by simp [PySem.W.alikeAll]
  | n :: l, [] => by simp [PySem.W.alikeAll]
  | n :: l, m :: k => by
    rw [List.map_cons, List.map_cons, PySem.W.alikeAll, alike_ints l k]
    simp [PySem.W.alike]
theorem alike_keys (l k : List Nat) : PySem.W.alike (keyD l) (keyD k) = true := by
  unfold keyD
  simp [PySem.W.alike, PySem.W.alikeAll, alike_ints]
theorem depth_ints : ∀ l : List Nat, PyData.depthAll (l.map natD) = 0
  | [] => by simp [PyData.depthAll]
  | n :: l => by
    rw [List.map_cons, PyData.depthAll, depth_ints l]
    simp [PyData.depth]
theorem depth_key (l : List Nat) : (keyD l).depth = 2 := by
  unfold keyD
  simp [PyData.depth, PyData.depthAll, depth_ints]
section
variable {P : Program} {w : World} {K : PySem.W.Frag} {mg : Str → Option Value} {base : Heap} {A : Around} {E : Value → Shared → Prop} {s : Shared}
/-- (len(x), x) -/
theorem key_expr {env : Env} {m : Str → Option Value} {x : Str} {p1 p2 p3 p4 p5 : Pos} {kk : Nat} {a : Addr} {its : Array Value} {Q : Value → Shared → Prop} (M : L2.Mod K mg base) (kb : ∀ b o, base.get? b = some o → s.heap.get? b = some o)
    (hk : env.scope.kind = .function) (hx : env.kindOf x = some .local) (hl : env.kindOf "len" = some .globalImplicit) (hg : env.globals = mainGlobals) (hb : env.builtins = builtinsNs) (hn : s.heap.Ns env.locals m) (hm : m x = some (.ref a)) (ml : mg "len" = none)
    (ht : IsTup s.heap a its) (hz : its.size ≤ sizeLine) (hd : (x == ("__debug__" : Str)) = false) (hs : starEach [.Call (.Name "len" p1) [.Name x p2] [] p3, .Name x p4] env = [(false, eval (.Call (.Name "len" p1) [.Name x p2] [] p3) env), (false, eval (.Name x p4) env)])
    (hs2 : starEach [.Name x p2] env = (false, eval (.Name x p2) env) :: starEach [] env)
    (h : ∀ t tk, Q (.ref s.heap.objs.size) { s with heap := s.heap.push { cls := .type "tuple", data := .seq #[.int (its.size : Int) t, .ref a] }, toks := tk }) :
    wpAny (model P w) A (eval (.Tuple [.Call (.Name "len" p1) [.Name x p2] [] p3, .Name x p4] kk p5) env) Q E s := by
  obtain ⟨mb, b1, b2⟩ := M.blt
  refine wpAny_Tuple_spliced ?_
  rw [hs]
  refine Calls.spliced_cons (Call_ (Calls.Name_function_global hk hl (Calls.loadGlobal_builtin (by rw [hg]; exact M.glob.keeps kb) ml (by rw [hb]; exact b1.keeps kb) ((b2 "len" (by decide)).trans boot_len) ?_) (by decide)))
  refine PyProof.Rows.callWith_builtin1 ?_ hs2 rfl
  rw [hs2]
  refine Calls.spliced_cons (wpAny_Name (wpAny_loadName_local hk hx hn hm (Calls.spliced_nil ?_)) hd)
  have h63 := line63
  have sl : sizeLine = 16777216 := sizeLine_eq
  refine PyProof.Rows.len_tuple ht (by omega) ?_
  refine Calls.spliced_cons (wpAny_Name (wpAny_loadName_local (s := { s with toks := s.toks + 1 + 1 }) hk hx hn hm (Calls.spliced_nil ⟨?_, h _ _⟩)) hd)
  show 2 ≤ sizeLine
  decide
end
end Ow
set_option Elab.async false
set_option linter.all false
set_option maxRecDepth 100000
namespace Ow
open PySem PySem.Spec PyProof.Rows L2
/-! ### the text by its places -/
def top (i : Nat) : Stmt := PySem.Challenge.pw_onlyanswer_k10_whole_tables_by_signs.main.body.getD i (.Pass ⟨0, 0, 0, 0⟩)
abbrev sIsInt : Stmt := top 9
abbrev sBetw : Stmt := top 10
abbrev sRank : Stmt := top 13
abbrev sFault : Stmt := top 16
abbrev sTabI : Stmt := inClass (top 17) 0
abbrev sTabE : Stmt := inClass (top 17) 4
abbrev sCheck : Stmt := top 21
abbrev sRings : Stmt := top 22
abbrev sWorth : Stmt := top 23
abbrev sIsBad : Stmt := top 24
abbrev sFirst : Stmt := top 25
abbrev sAlways : Stmt := top 26
abbrev sBadT : Stmt := top 27
abbrev sCan : Stmt := top 29
abbrev sSip : Stmt := top 30
abbrev sPick : Stmt := top 31
abbrev sGrid : Stmt := top 32
abbrev sDet : Stmt := top 33
abbrev sCut : Stmt := top 34
abbrev sLots : Stmt := top 35
abbrev sFB : Stmt := top 36
abbrev sSigns : Stmt := top 37
abbrev sSign : Stmt := top 38
abbrev sFilled : Stmt := top 39
abbrev sRight : Stmt := top 40
abbrev sLaw : Stmt := top 41
/-! ### sorted by that key -/
section
variable {P : Program} {w : World} {K : PySem.W.Frag} {mg : Str → Option Value} {base : Heap} {A : Around} {s : Shared}
theorem key_pure {s2 : Shared} {a : Addr} {its : List Value} {l : List Nat} {h' : Heap} {t tk : Nat} {T : Addr} (hr : Vals (l.map natV) its) (ht : IsTup s.heap a its.toArray) (kp : ∀ b o, s.heap.get? b = some o → h'.get? b = some o)
    (hT : h'.get? T = some { cls := .type "tuple", data := .seq #[.int ((its.toArray.size : Nat) : Int) t, .ref a] }) (e : s2 = { s with heap := h', toks := tk }) : PySem.W.KeyPure (keyD l) s (.ref T) s2 := by
  refine ⟨h', tk, e, kp, ?_⟩
  obtain ⟨o, ho, hc, n, hd⟩ := ht
  have len : its.length = l.length := by
    have z := hr.length
    rw [List.length_map] at z
    exact z.symm
  have e1 : ((its.toArray.size : Nat) : Int) = (l.length : Int) := by
    rw [List.size_toArray, len]
  rw [e1] at hT
  refine Reads.tuple (as := []) hT rfl rfl (ReadsAll.cons (as := []) (bs := []) (.int _ t) (ReadsAll.cons (as := []) (bs := []) (Reads.tuple (as := []) (kp _ _ ho) hc hd ?_) .nil))
  exact reads_ints hr
theorem rank_names : ∀ x ∈ (defScope sRank).names, x.2 ≠ NameKind.cell := by decide +kernel
/-- rank_of(x) -/
theorem rank_call {f : Addr} {fd : FuncData} (F : Fun K "rank_of" "rank_of" sRank f fd) (M : L2.Mod K mg base) (kb : ∀ b o, base.get? b = some o → s.heap.get? b = some o) (ml : mg "len" = none) (hr : A.depth < recursionLimit)
    {a : Addr} {its : List Value} {l : List Nat} (rv : Vals (l.map natV) its) (ht : IsTup s.heap a its.toArray) (hz : its.length ≤ sizeLine) : wpAny (model P w) A (call (.ref f) [.ref a]) (PySem.W.KeyPure (keyD l) s) (fun _ _ => False) s := by
  obtain ⟨oc, od, kV, doc, pm, an, cdv, ct, osl, rfl, lk, hcd⟩ := F.ex
  have KX : K.In s.heap := M.kin.keeps kb
  refine wpAny_call (codeAny_call_function hr (KX _ _ lk) rfl rfl rfl rfl (PySem.W.codeRec_of KX hcd) ?_)
  refine wpAny_of_eq (a := ([("lot", Value.ref a)] : List (Str × Value))) rfl ?_
  refine wpAny_newFunctionEnv rank_names (fun y hy => by rw [List.mem_singleton.mp hy]; rfl) (fun h1 hns hsb => ⟨(M.nolimit.keeps kb).fresh _ hsb, codeAny_func (wpAny_execs_cons (wpAny_Return_some ?_))⟩) rfl
  have k1 : ∀ b o, s.heap.get? b = some o → h1.get? b = some o := fun b o e => hsb.extBut b o (Nat.ne_of_lt (Heap.lt_size e)) (Heap.get?_push_of_some _ e)
  obtain ⟨o, ho, hc, n, hd⟩ := id ht
  refine key_expr (s := { s with heap := h1, toks := _ }) (a := a) (its := its.toArray) M (fun b o e => k1 _ _ (kb _ _ e)) rfl rfl rfl rfl rfl hns rfl ml ⟨o, k1 _ _ ho, hc, n, hd⟩ (by rw [List.size_toArray]; exact hz) (by decide) rfl rfl fun t tk => ?_
  exact key_pure (s := s) (tk := tk) rv ht (fun b o e => Heap.get?_push_of_some _ (k1 _ _ e)) (Heap.get?_push_size _ rfl) rfl
end
section
variable {X : Cx} {pins : List (Addr × Obj)} {σ : L2.St} {H : Hp} {s : Shared}
/-- sorted(xs, key = f), f any that gives that key -/
theorem sort_run {a q : Addr} {bs : List (Addr × List Nat)} {Q : VK} (I : Inv X pins σ H s) (hS : SqL X.K H a (bs.map fun p => V.ref p.1)) (hr : Room 2 X.A)
    (turn : ∀ p ∈ bs, ∀ (h : Heap) (tk : Nat), (∀ b o, s.heap.get? b = some o → h.get? b = some o) → wpAny (model X.prog X.w) X.A.in1.in1 (call (.ref q) [.ref p.1]) (PySem.W.KeyPure (keyD p.2) { s with heap := h, toks := tk }) (fun _ _ => False) { s with heap := h, toks := tk })
    (k : ∀ p, H p = none → Q (.ref p) (upd H p (.lst ((bs.mergeSort fun x y => leK x.2 y.2).map fun p => V.ref p.1)))) : wpAny (model X.prog X.w) X.A (call (.builtin "sorted") [.ref a] [(Str.ofString "key", .ref q)]) (EP X pins σ Q) X.xe s := by
  obtain ⟨its, rv, pl, hz⟩ := I.list hS
  have each : PySem.W.EachIs (fun (v : Value) (p : Addr × List Nat) => v = .ref p.1) its bs := by
    clear hS hz turn k pl
    induction bs generalizing its with
    | nil =>
      cases rv
      exact .nil
    | cons b bs ih =>
      cases rv with
      | cons r t => exact .cons r (ih _ t)
  rw [List.length_map] at hz
  refine PySem.W.sorted_key_data (b := false) (fun p : Addr × List Nat => keyD p.2) pl.isList each (fun d hd d' hd' => ?_) (.inl fun d hd => ?_) hz (fun p _ => ?_) (PyProof.Rows.ksk_s1 _ _) (fun _ => PyProof.Rows.ksk_l1 _ _) (fun x => PyProof.Rows.ksk_t1 q x) (fun v p hv hp h tk kp => ?_) fun out c h' tk kp fr hn hl ho => ?_
  · obtain ⟨p, _, rfl⟩ := List.mem_map.mp hd
    obtain ⟨p', _, rfl⟩ := List.mem_map.mp hd'
    exact alike_keys _ _
  · obtain ⟨p, _, rfl⟩ := List.mem_map.mp hd
    exact ⟨_, _, rfl⟩
  · rw [depth_key]
    have z := hr.un
    omega
  · subst hv
    exact turn p hp h tk kp
  · have eo : out = (bs.mergeSort fun x y => leK x.2 y.2).map fun p => Value.ref p.1 := by
      have ho' : PySem.W.EachIs (fun (v : Value) (p : Addr × List Nat) => v = .ref p.1) out (bs.mergeSort fun x y => leK x.2 y.2) := ho
      clear ho hl hn k
      generalize (bs.mergeSort fun x y => leK x.2 y.2) = cs at ho'
      induction ho' with
      | nil => rfl
      | cons h1 _ ih => rw [List.map_cons, h1, ih]
    have vo : Vals ((bs.mergeSort fun x y => leK x.2 y.2).map fun p => V.ref p.1) out := by
      rw [eo]
      generalize (bs.mergeSort fun x y => leK x.2 y.2) = cs
      induction cs with
      | nil => exact .nil
      | cons c cs ih => exact .cons rfl ih
    have hlen : ((bs.mergeSort fun x y => leK x.2 y.2).map fun p => V.ref p.1).length ≤ sizeLine := by
      rw [vo.length, hl]
      exact hz
    have le1 : s.heap.objs.size ≤ s.heap.objs.size + 1 := Nat.le_succ _
    exact ⟨.ref (s.heap.objs.size + 1), _, I.laid (t' := tk) kp le1 (o := .lst ((bs.mergeSort fun x y => leK x.2 y.2).map fun p => V.ref p.1)) ⟨hlen, out, c, vo, hn⟩, rfl, k _ (I.hok.fresh le1)⟩
end
def rSortKey (K : PySem.W.Frag) (f : Addr) : List V → List V → Hp → VK → Prop := fun vs zs H Q => ∃ (a : Addr) (bs : List (Addr × List Nat)), vs = [V.ref a] ∧ zs = [V.ref f] ∧ SqL K H a (bs.map fun p => V.ref p.1) ∧ (∀ p ∈ bs, SqT K H p.1 (p.2.map natV)) ∧
  ∀ p, H p = none → Q (.ref p) (upd H p (.lst ((bs.mergeSort fun x y => leK x.2 y.2).map fun p => V.ref p.1)))
/-- sorted(xs, key=rank_of) -/
theorem cr_sortKey {X : Cx} {f : Addr} {fd : FuncData} (F : Fun X.K "rank_of" "rank_of" sRank f fd) (ml : X.mg "len" = none) (hr : Room 2 X.A) : CallRK X (.builtin "sorted") [Str.ofString "key"] (rSortKey X.K f) := by
  intro pins s σ H vs zs us ws Q I r rz h
  obtain ⟨a, bs, rfl, rfl, hS, hT, q⟩ := h
  obtain rfl := Vals.ref1 r
  obtain ⟨w1, rfl, e1⟩ := vals1 rz
  obtain rfl : w1 = Value.ref f := e1
  refine sort_run I hS hr (fun p hp h tk kp => ?_) q
  obtain ⟨its, rv, pl, hz⟩ := I.tuple (hT p hp)
  have hz2 : its.length ≤ sizeLine := by
    rw [← rv.length]
    exact hz
  obtain ⟨o, ho, hc, n, hd⟩ := pl
  exact rank_call (s := { s with heap := h, toks := tk }) F I.mod (fun b o e => kp _ _ (I.bk _ _ e)) ml ((hr.in1).in1).depth rv ⟨o, kp _ _ ho, hc, n, hd⟩ hz2
end Ow
set_option Elab.async false
set_option linter.all false
set_option maxRecDepth 100000
namespace Ow
open PySem PySem.Spec PyProof.Rows L2
/-! ### sorted(xs, key=lambda x: (len(x), x)) -/
/-- the parts of such a lambda -/
structure LamKey (params : Arguments) (scope : Scope) (x : Str) : Prop where
  kind : scope.kind = .function
  co : scope.isCoroutine = false
  gen : scope.isGenerator = false
  own : ∀ y ∈ scope.names, y.2 ≠ .cell
  free : ∀ y ∈ scope.names, y.2 ≠ .free
  par : scope.names.lookup x = some .local
  len : scope.names.lookup ("len" : Str) = some .globalImplicit
  dbg : (x == ("__debug__" : Str)) = false
section
variable {P : Program} {w : World} {K : PySem.W.Frag} {mg : Str → Option Value} {base : Heap} {A : Around} {s : Shared}
theorem lam_call {params : Arguments} {scope : Scope} {x q : Str} {cl : List (Str × Addr)} {pm ctv : Value} {f c' : Addr} {p1 p2 p3 p4 p5 : Pos} {kk : Nat} (L : LamKey params scope x)
    (hf : s.heap.get? f = some (PySem.W.kla_obj "<lambda>" q params (.Tuple [.Call (.Name "len" p1) [.Name x p2] [] p3, .Name x p4] kk p5) scope cl pm c' ctv)) (hc : s.heap.CodeRec (.ref c') q)
    (hbind : ∀ u : Value, bindArgs (PySem.W.kla_fn "<lambda>" q params (.Tuple [.Call (.Name "len" p1) [.Name x p2] [] p3, .Name x p4] kk p5) scope cl pm (.ref c') ctv) ⟨[u], []⟩ = pure [(x, u)])
    (M : L2.Mod K mg base) (kb : ∀ b o, base.get? b = some o → s.heap.get? b = some o) (ml : mg "len" = none) (hr : A.depth < recursionLimit)
    {a : Addr} {its : List Value} {l : List Nat} (rv : Vals (l.map natV) its) (ht : IsTup s.heap a its.toArray) (hz : its.length ≤ sizeLine)
    (hs : ∀ env : Env, starEach [.Call (.Name "len" p1) [.Name x p2] [] p3, .Name x p4] env = [(false, eval (.Call (.Name "len" p1) [.Name x p2] [] p3) env), (false, eval (.Name x p4) env)])
    (hs2 : ∀ env : Env, starEach [.Name x p2] env = (false, eval (.Name x p2) env) :: starEach [] env) :
    wpAny (model P w) A (call (.ref f) [.ref a]) (PySem.W.KeyPure (keyD l) s) (fun _ _ => False) s := by
  refine wpAny_call (PySem.W.kla_callFunE hr hf rfl L.co L.gen rfl hc ?_)
  rw [hbind]
  refine wpAny_pure (wpAny_newFunctionEnv L.own (fun y hy => by rw [List.mem_singleton.mp hy]; exact L.par) (fun h1 hns hsb => ⟨(M.nolimit.keeps kb).fresh _ hsb, PySem.W.kla_codeExpr ?_⟩) L.kind)
  have k1 : ∀ b o, s.heap.get? b = some o → h1.get? b = some o := fun b o e => hsb.extBut b o (Nat.ne_of_lt (Heap.lt_size e)) (Heap.get?_push_of_some _ e)
  obtain ⟨o, ho, hc, n, hd⟩ := id ht
  refine key_expr (s := { s with heap := h1, toks := _ }) (a := a) (its := its.toArray) M (fun b o e => k1 _ _ (kb _ _ e)) L.kind L.par L.len rfl rfl hns ?_ ml ⟨o, k1 _ _ ho, hc, n, hd⟩ (by rw [List.size_toArray]; exact hz) L.dbg (hs _) (hs2 _) fun t tk => ?_
  · show List.lookup x [(x, Value.ref a)] = _
    simp [List.lookup]
  · exact key_pure (s := s) (tk := tk) rv ht (fun b o e => Heap.get?_push_of_some _ (k1 _ _ e)) (Heap.get?_push_size _ rfl) rfl
end
def tSortLam (K : PySem.W.Frag) (P : Addr) (q : Str) (ta : TA) : TE := fun σ H Q => ta σ H fun vs H0 => LamX.TabS H0 P q ∧ ∃ (a : Addr) (bs : List (Addr × List Nat)), vs = [V.ref a] ∧ SqL K H0 a (bs.map fun p => V.ref p.1) ∧ (∀ p ∈ bs, SqT K H0 p.1 (p.2.map natV)) ∧
  ∀ H1 p, LamX.ExtN H0 H1 → LamX.TabS H1 P q → H1 p = none → Q (.ref p) (upd H1 p (.lst ((bs.mergeSort fun x y => leK x.2 y.2).map fun p => V.ref p.1)))
theorem extN_sqT {K : PySem.W.Frag} {H H' : Hp} {a : Addr} {xs : List V} (e : LamX.ExtN H H') (h : SqT K H a xs) : SqT K H' a xs :=
  h.elim (fun h => .inl (h.elim (fun h => .inl (e _ _ h fun ps z => by cases z)) fun ⟨o, h⟩ => .inr ⟨o, e _ _ h fun ps z => by cases z⟩)) .inr
theorem extN_sqL {K : PySem.W.Frag} {H H' : Hp} {a : Addr} {xs : List V} (e : LamX.ExtN H H') (h : SqL K H a xs) : SqL K H' a xs :=
  h.elim (fun h => .inl (h.elim (fun h => .inl (e _ _ h fun ps z => by cases z)) fun ⟨o, h⟩ => .inr ⟨o, e _ _ h fun ps z => by cases z⟩)) .inr
theorem pe_sortLam {X : Cx} {c P : Addr} {e : Expr} {ta : TA} {params : Arguments} {scope : Scope} {x : Str} {p pos lpos kpos p1 p2 p3 p4 p5 : Pos} {kk : Nat} (hg : Gl X "sorted") (hm : X.mg "sorted" = none) (ml : X.mg "len" = none)
    (TB : LamX.TabB X.base X.mg c P) (hcode : X.env.code = .ref c) (hr : Room 2 X.A) (L : LamKey params scope x) (ha : PA X [e] ta) (hdef : defaultsOf params X.env = ([], []))
    (hbind : ∀ (q : Str) (cl : List (Str × Addr)) (pm cv ctv u : Value), bindArgs (PySem.W.kla_fn "<lambda>" q params (.Tuple [.Call (.Name "len" p1) [.Name x p2] [] p3, .Name x p4] kk p5) scope cl pm cv ctv) ⟨[u], []⟩ = pure [(x, u)])
    (hs : ∀ env : Env, starEach [.Call (.Name "len" p1) [.Name x p2] [] p3, .Name x p4] env = [(false, eval (.Call (.Name "len" p1) [.Name x p2] [] p3) env), (false, eval (.Name x p4) env)])
    (hs2 : ∀ env : Env, starEach [.Name x p2] env = (false, eval (.Name x p2) env) :: starEach [] env)
    (he : backTo pos (starEach [e] X.env) = (false, eval e X.env) :: backTo pos (starEach [] X.env) := by rfl) (hpl : (backTo pos (starEach [e] X.env)).any (·.1) = false := by rfl) :
    PE X (.Call (.Name "sorted" p) [e] [⟨some "key", .Lambda params (.Tuple [.Call (.Name "len" p1) [.Name x p2] [] p3, .Name x p4] kk p5) scope lpos, kpos⟩] pos) (tSortLam X.K P (X.env.qual ++ "<lambda>") ta) := by
  refine ⟨fun pins s σ H Q I h => ?_⟩
  refine wpAny_Call_Name_kw (ld_blt I hg hm (u := .builtin "sorted") (by decide +kernel) ?_)
  refine PyProof.Rows.callWith_kw (thn (ha.run pos pins s σ H _ I h) fun us s1 ⟨vs, H1, I1, r1, q1⟩ => ?_) he hpl
  obtain ⟨hT, a, bs, ex, hS, hB, q⟩ := q1
  subst ex
  obtain rfl := Vals.ref1 r1
  refine wpAny_evalAll_cons (wpAny_bind (LamX.lam_make2 (T := [(P, X.env.qual ++ "<lambda>")]) I1 TB hcode (by simp) (fun p hp _ => by rw [List.mem_singleton.mp hp]) (fun p hp => by rw [List.mem_singleton.mp hp]; exact hT) hdef (fun y hy z => absurd z (L.free y hy)) fun f c' pm ctv H2 s2 I2 eN T2 hf hfn hfr hco => ?_))
  refine wpAny_bind (wpAny_standAt (wpAny_pure (wpAny_evalAll_nil ?_)))
  refine sort_run (q := f) I2 (extN_sqL eN hS) hr (fun p hp h tk kp => ?_) fun p hp => q H2 p eN (T2 _ (List.mem_singleton.mpr rfl)) hp
  obtain ⟨its, rv, pl, hz⟩ := I2.tuple (extN_sqT eN (hB p hp))
  have hz2 : its.length ≤ sizeLine := by
    rw [← rv.length]
    exact hz
  obtain ⟨o, ho, hc, n, hd⟩ := pl
  obtain ⟨⟨oc, vs, t, hoc, hdc, hvc⟩, _, _⟩ := I2.hok c' _ hco
  exact lam_call (s := { s2 with heap := h, toks := tk }) L (kp _ _ hf) ⟨c', oc, vs, t, rfl, kp _ _ hoc, hdc, hvc⟩ (fun u => hbind _ _ _ _ _ _) I2.mod (fun b o e => kp _ _ (I2.bk _ _ e)) ml ((hr.in1).in1).depth rv ⟨o, kp _ _ ho, hc, n, hd⟩ hz2 hs hs2
end Ow
set_option Elab.async false
set_option linter.all false
set_option maxRecDepth 100000
namespace Ow
open PySem PySem.Spec PyProof.Rows L2
/-! ### pairs of lists -/
def Each {α β : Type} (F : α → β → Prop) (as : List α) (bs : List β) : Prop := as.length = bs.length ∧ ∀ (i : Nat) (a : α) (b : β), as[i]? = some a → bs[i]? = some b → F a b
section
variable {α β : Type} {F G : α → β → Prop} {as : List α} {bs : List β}
theorem Each.nil : Each F [] [] := ⟨rfl, fun i a b h => by simp at h⟩
theorem Each.mono (h : Each F as bs) (m : ∀ a b, F a b → G a b) : Each G as bs := ⟨h.1, fun i a b x y => m a b (h.2 i a b x y)⟩
theorem Each.get (h : Each F as bs) {i : Nat} {b : β} (hb : bs[i]? = some b) : ∃ a, as[i]? = some a ∧ F a b := by
  obtain ⟨hi, _⟩ := List.getElem?_eq_some_iff.mp hb
  have hi' : i < as.length := by rw [h.1]; exact hi
  exact ⟨as[i], List.getElem?_eq_getElem hi', h.2 i _ b (List.getElem?_eq_getElem hi') hb⟩
theorem Each.get' (h : Each F as bs) {i : Nat} {a : α} (ha : as[i]? = some a) : ∃ b, bs[i]? = some b ∧ F a b := by
  obtain ⟨hi, _⟩ := List.getElem?_eq_some_iff.mp ha
  have hi' : i < bs.length := by rw [← h.1]; exact hi
  exact ⟨bs[i], List.getElem?_eq_getElem hi', h.2 i a _ ha (List.getElem?_eq_getElem hi')⟩
theorem Each.snoc (h : Each F as bs) {a : α} {b : β} (f : F a b) : Each F (as ++ [a]) (bs ++ [b]) := by
  refine ⟨by rw [List.length_append, List.length_append, h.1]; rfl, fun i x y hx hy => ?_⟩
  rcases Nat.lt_trichotomy i as.length with hi | hi | hi
  · rw [List.getElem?_append_left hi] at hx
    rw [List.getElem?_append_left (by rw [← h.1]; exact hi)] at hy
    exact h.2 i x y hx hy
  · subst hi
    rw [List.getElem?_concat_length] at hx
    rw [h.1, List.getElem?_concat_length] at hy
    cases hx
    cases hy
    exact f
  · have z : (as ++ [a])[i]? = none := List.getElem?_eq_none (by rw [List.length_append]; simp; omega)
    rw [z] at hx
    cases hx
theorem Each.append {cs : List α} {ds : List β} (h : Each F as bs) (g : Each F cs ds) : Each F (as ++ cs) (bs ++ ds) := by
  refine ⟨by rw [List.length_append, List.length_append, h.1, g.1], fun i x y hx hy => ?_⟩
  by_cases hi : i < as.length
  · rw [List.getElem?_append_left hi] at hx
    rw [List.getElem?_append_left (by rw [← h.1]; exact hi)] at hy
    exact h.2 i x y hx hy
  · rw [List.getElem?_append_right (by omega)] at hx
    rw [List.getElem?_append_right (by rw [← h.1]; omega), ← h.1] at hy
    exact g.2 _ x y hx hy
theorem Each.of_zip {zs : List (α × β)} (h : ∀ p ∈ zs, F p.1 p.2) : Each F (zs.map Prod.fst) (zs.map Prod.snd) := by
  refine ⟨by simp, fun i a b ha hb => ?_⟩
  rw [List.getElem?_map] at ha hb
  cases e : zs[i]? with
  | none =>
    rw [e] at ha
    cases ha
  | some p =>
    rw [e] at ha hb
    cases ha
    cases hb
    exact h p (List.mem_of_getElem? e)
end
/-! ### tests -/
theorem itT {b : Bool} {A B : Prop} (hb : b = true) (h : A) : if b = true then A else B := by
  subst hb
  exact iteT h
theorem itF {b : Bool} {A B : Prop} (hb : b = false) (h : B) : if b = true then A else B := by
  subst hb
  exact iteF h
/-! ### rows -/
abbrev intsV (r : List Int) : List V := r.map V.int
abbrev refsV (as : List Addr) : List V := as.map V.ref
/-- a tuple of tuples, a list of lists of whole numbers -/
def TR (K : PySem.W.Frag) (H : Hp) (a : Addr) (m : List (List Int)) : Prop := ∃ as : List Addr, SqT K H a (refsV as) ∧ Each (fun p r => SqT K H p (intsV r)) as m
def LR (K : PySem.W.Frag) (H : Hp) (a : Addr) (m : List (List Int)) : Prop := ∃ as : List Addr, SqL K H a (refsV as) ∧ Each (fun p r => SqL K H p (intsV r)) as m
theorem TR.ext {K : PySem.W.Frag} {H H' : Hp} {a : Addr} {m : List (List Int)} (h : TR K H a m) (e : Ext H H') : TR K H' a m := by
  obtain ⟨as, h1, h2⟩ := h
  exact ⟨as, h1.ext e, h2.mono fun p r z => z.ext e⟩
theorem LR.ext {K : PySem.W.Frag} {H H' : Hp} {a : Addr} {m : List (List Int)} (h : LR K H a m) (e : Ext H H') : LR K H' a m := by
  obtain ⟨as, h1, h2⟩ := h
  exact ⟨as, h1.ext e, h2.mono fun p r z => z.ext e⟩
/-- n rows of n -/
def Sq (n : Nat) (m : List (List Int)) : Prop := m.length = n ∧ ∀ (i : Nat) (r : List Int), m[i]? = some r → r.length = n
/-- each number is so -/
def All (p : Int → Prop) (m : List (List Int)) : Prop := ∀ (i : Nat) (r : List Int) (j : Nat) (x : Int), m[i]? = some r → r[j]? = some x → p x
theorem cell_at {m : List (List Int)} {i j : Nat} {r : List Int} {x : Int} (h : m[i]? = some r) (g : r[j]? = some x) : cell m i j = x := by
  have e : m.getD i [] = r := by rw [List.getD_eq_getElem?_getD, h, Option.getD_some]
  unfold cell
  rw [e, List.getD_eq_getElem?_getD, g, Option.getD_some]
theorem Sq.at {n : Nat} {m : List (List Int)} (h : Sq n m) {i j : Nat} (hi : i < n) (hj : j < n) : ∃ (r : List Int) (x : Int), m[i]? = some r ∧ r[j]? = some x ∧ r.length = n ∧ cell m i j = x := by
  have h1 : i < m.length := by rw [h.1]; exact hi
  have e1 := List.getElem?_eq_getElem h1
  have h2 := h.2 i _ e1
  have h3 : j < m[i].length := by rw [h2]; exact hj
  exact ⟨m[i], m[i][j], e1, List.getElem?_eq_getElem h3, h2, cell_at e1 (List.getElem?_eq_getElem h3)⟩
theorem get_ints {r : List Int} {i : Nat} {v : V} (h : (intsV r)[i]? = some v) : ∃ x, v = .int x ∧ r[i]? = some x := by
  rw [List.getElem?_map] at h
  cases e : r[i]? with
  | none =>
    rw [e] at h
    cases h
  | some x =>
    rw [e] at h
    exact ⟨x, (Option.some.inj h).symm, rfl⟩
theorem get_refs {as : List Addr} {i : Nat} {v : V} (h : (refsV as)[i]? = some v) : ∃ a, v = .ref a ∧ as[i]? = some a := by
  rw [List.getElem?_map] at h
  cases e : as[i]? with
  | none =>
    rw [e] at h
    cases h
  | some x =>
    rw [e] at h
    exact ⟨x, (Option.some.inj h).symm, rfl⟩
theorem int_at {r : List Int} {i : Nat} {x : Int} (h : r[i]? = some x) : (intsV r)[i]? = some (.int x) := by rw [List.getElem?_map, h]; rfl
theorem ref_at {as : List Addr} {i : Nat} {a : Addr} (h : as[i]? = some a) : (refsV as)[i]? = some (.ref a) := by rw [List.getElem?_map, h]; rfl
theorem tyT {K : PySem.W.Frag} {H : Hp} {a : Addr} {xs : List V} (h : SqT K H a xs) : TyX K H (.ref a) (.type "tuple") := by
  rcases h with (h | ⟨o, h⟩) | ⟨o, its, n, h, hc, _⟩
  · exact .base (.tup h)
  · exact .fTuple h
  · exact .kTuple h hc
theorem ext_new {H : Hp} {p : Addr} {o : HO} (h : H p = none) : Ext H (upd H p o) := Ext.upd h
/-! ### loops over enumerate(tuple), zip(tuple, list) -/
theorem for_enumT {K : PySem.W.Frag} {a : Addr} {xs : List V} {g : TG} {tb : TS} {D : Ends} {σ : L2.St} {H : Hp} (Pv : Nat → L2.St → Hp → Prop) (h0 : Pv 0 σ H) (hl : ∀ i σ H, i ≤ xs.length → Pv i σ H → SqT K H a xs)
    (hs : ∀ i x σ H T, xs[i]? = some x → Pv i σ H → H T = none → g (.ref T) σ (upd H T (.tup [.int (i : Nat), x])) fun σ2 H2 => tb { D with nx := Pv (i + 1), ct := Pv (i + 1), bk := D.nx } σ2 H2) (hd : ∀ σ H, Pv xs.length σ H → D.nx σ H) :
    ∃ W : Nat → Nat → L2.St → Hp → Prop, (∃ m, W 0 m σ H) ∧ ∀ i m σ H, W i m σ H →
      ((IteT K a).stop i H ∧ D.nx σ H) ∨ ((IteT K a).go i H ∧ ∃ N : L2.St → Hp → Prop, (∀ σ' H', N σ' H' → ∃ m', m' < m ∧ W (i + 1) m' σ' H') ∧ ∀ x H', (IteT K a).yld i H x H' → g x σ H' fun σ2 H2 => tb { D with nx := N, ct := N, bk := D.nx } σ2 H2) := by
  refine ⟨fun i m σ H => m = xs.length - i ∧ i ≤ xs.length ∧ Pv i σ H, ⟨xs.length, rfl, Nat.zero_le _, h0⟩, ?_⟩
  rintro i m σ H ⟨rfl, hi, p⟩
  have q := hl i σ H hi p
  by_cases hlt : i < xs.length
  · refine .inr ⟨⟨xs, xs[i], q, List.getElem?_eq_getElem hlt⟩, Pv (i + 1), fun σ' H' p' => ⟨xs.length - (i + 1), by omega, rfl, hlt, p'⟩, ?_⟩
    rintro v H' ⟨T, x, rfl, nT, rfl, hx⟩
    exact hs i x σ H T (hx xs q) p nT
  · have e : i = xs.length := by omega
    subst e
    exact .inl ⟨⟨xs, q, rfl⟩, hd _ _ p⟩
theorem lc_enumT {K : PySem.W.Frag} {a : Addr} {xs : List V} {g : TG} {tt : TT} {te : TE} {vs : List Nat} {σ : L2.St} {H1 : Hp} {D : Addr} {Qd : Hp → Prop} (Pv : Nat → Hp → Prop) (h0 : Pv 0 (upd H1 D (.lst []))) (hl : ∀ i H, i ≤ xs.length → Pv i H → SqT K H a xs)
    (hs : ∀ i x H T, xs[i]? = some x → Pv i H → H T = none → g (.ref T) (wipe σ vs) (upd H T (.tup [.int (i : Nat), x])) fun σ2 H2 => wipe σ2 vs = wipe σ vs ∧ tt σ2 H2 fun b H3 =>
      if b = true then te σ2 H3 fun y H4 => ∃ acc, H4 D = some (.lst acc) ∧ acc.length < sizeLine ∧ Pv (i + 1) (upd H4 D (.lst (acc ++ [y]))) else Pv (i + 1) H3) (hd : ∀ H, Pv xs.length H → Qd H) :
    ∃ W : Nat → Nat → Hp → Prop, (∃ m, W 0 m (upd H1 D (.lst []))) ∧ ∀ i m H, W i m H →
      ((IteT K a).stop i H ∧ Qd H) ∨ ((IteT K a).go i H ∧ ∃ Nx : Hp → Prop, (∀ H', Nx H' → ∃ m', m' < m ∧ W (i + 1) m' H') ∧ ∀ x H', (IteT K a).yld i H x H' → g x (wipe σ vs) H' fun σ2 H2 => wipe σ2 vs = wipe σ vs ∧ tt σ2 H2 fun b H3 =>
        if b = true then te σ2 H3 fun y H4 => ∃ acc, H4 D = some (.lst acc) ∧ acc.length < sizeLine ∧ Nx (upd H4 D (.lst (acc ++ [y]))) else Nx H3) := by
  refine ⟨fun i m H => m = xs.length - i ∧ i ≤ xs.length ∧ Pv i H, ⟨xs.length, rfl, Nat.zero_le _, h0⟩, ?_⟩
  rintro i m H ⟨rfl, hi, p⟩
  have q := hl i H hi p
  by_cases hlt : i < xs.length
  · refine .inr ⟨⟨xs, xs[i], q, List.getElem?_eq_getElem hlt⟩, Pv (i + 1), fun H' p' => ⟨xs.length - (i + 1), by omega, rfl, hlt, p'⟩, ?_⟩
    rintro v H' ⟨T, x, rfl, nT, rfl, hx⟩
    exact hs i x H T (hx xs q) p nT
  · have e : i = xs.length := by omega
    subst e
    exact .inl ⟨⟨xs, q, rfl⟩, hd _ p⟩
theorem for_zipM {K : PySem.W.Frag} {a b : Addr} {xs ys : List V} {g : TG} {tb : TS} {D : Ends} {σ : L2.St} {H : Hp} (hxy : xs.length = ys.length) (Pv : Nat → L2.St → Hp → Prop) (h0 : Pv 0 σ H) (hl : ∀ i σ H, i ≤ xs.length → Pv i σ H → SqT K H a xs ∧ SqL K H b ys)
    (hs : ∀ i x y σ H T, xs[i]? = some x → ys[i]? = some y → Pv i σ H → H T = none → g (.ref T) σ (upd H T (.tup [x, y])) fun σ2 H2 => tb { D with nx := Pv (i + 1), ct := Pv (i + 1), bk := D.nx } σ2 H2) (hd : ∀ σ H, Pv xs.length σ H → D.nx σ H) :
    ∃ W : Nat → Nat → L2.St → Hp → Prop, (∃ m, W 0 m σ H) ∧ ∀ i m σ H, W i m σ H →
      ((ItzM K a b).stop i H ∧ D.nx σ H) ∨ ((ItzM K a b).go i H ∧ ∃ N : L2.St → Hp → Prop, (∀ σ' H', N σ' H' → ∃ m', m' < m ∧ W (i + 1) m' σ' H') ∧ ∀ x H', (ItzM K a b).yld i H x H' → g x σ H' fun σ2 H2 => tb { D with nx := N, ct := N, bk := D.nx } σ2 H2) := by
  refine ⟨fun i m σ H => m = xs.length - i ∧ i ≤ xs.length ∧ Pv i σ H, ⟨xs.length, rfl, Nat.zero_le _, h0⟩, ?_⟩
  rintro i m σ H ⟨rfl, hi, p⟩
  obtain ⟨q, r⟩ := hl i σ H hi p
  by_cases hlt : i < xs.length
  · have hlt2 : i < ys.length := by omega
    refine .inr ⟨⟨xs, ys, xs[i], ys[i], q, r, List.getElem?_eq_getElem hlt, List.getElem?_eq_getElem hlt2⟩, Pv (i + 1), fun σ' H' p' => ⟨xs.length - (i + 1), by omega, rfl, hlt, p'⟩, ?_⟩
    rintro v H' ⟨T, x, y, rfl, nT, rfl, hx, hy⟩
    exact hs i x y σ H T (hx xs q) (hy ys r) p nT
  · have e : i = xs.length := by omega
    subst e
    exact .inl ⟨⟨xs, ys, q, r, rfl, hxy.symm⟩, hd _ _ p⟩
end Ow
set_option Elab.async false
set_option linter.all false
set_option maxRecDepth 100000
namespace Ow
open PySem PySem.Spec PyProof.Rows L2
/-! ### what the top has written -/
/-- a def of the text, by its name -/
structure Df (K : PySem.W.Frag) (mg : Str → Option Value) (x : Str) (st : Stmt) (ps : List Str) where
  f : Addr
  fd : FuncData
  F : Fun K x x st f fd
  b : Binds K fd ps []
  g : mg x = some (.ref f)
structure Bt (mg : Str → Option Value) : Prop where
  isi : mg "isinstance" = none
  int : mg "int" = none
  bool : mg "bool" = none
  len : mg "len" = none
  all : mg "all" = none
  tup : mg "tuple" = none
  enum : mg "enumerate" = none
  range : mg "range" = none
  srt : mg "sorted" = none
  zip : mg "zip" = none
  dict : mg "dict" = none
  abs : mg "abs" = none
  max : mg "max" = none
  min : mg "min" = none
structure Cn (mg : Str → Option Value) : Prop where
  rows : ∃ t, mg "MOST_ROWS" = some (.int 5 t)
  num : ∃ t, mg "MOST_NUMBER" = some (.int 100000000000000000000 t)
  great : ∃ t, mg "GREAT" = some (.int 1000 t)
section
variable {P : Program} {w : World} {K : PySem.W.Frag} {mg : Str → Option Value} {base : Heap}
/-! ### is_integer, is_between -/
theorem scIsInt : FnScope ["value"] ["value"] (defScope sIsInt) := ⟨rfl, rfl, rfl, by decide +kernel, rfl, by decide +kernel, by decide +kernel⟩
def spIsInt : Sp := fun vs H Q _ => ∃ i : Int, vs = [.int i] ∧ Q (.bl true) H
theorem ok_isInt (D : Df K mg "is_integer" sIsInt ["value"]) (B : Bt mg) : FnOk P w K mg base CX0 1 D.f D.fd ["value"] spIsInt := by
  refine D.F.ok scIsInt (fun vs H Q E h => ?_) (fun cdv A outer s H vs Q E hr h => ?_)
  · obtain ⟨i, rfl, _⟩ := h
    rfl
  obtain ⟨i, rfl, q⟩ := h
  refine ⟨_, pss_one (ps_ret (pe_and (pe_callB call_isi (by rfl) B.isi boot_isinstance (pa_cons (pv 0) (pa_cons (pe_bltn (v := .ty "int") (by rfl) B.int (by decide +kernel) rfl) pa_nil)))
    (pe_one (pe_not (pe_callB call_isi (by rfl) B.isi boot_isinstance (pa_cons (pv 0) (pa_cons (pe_bltn (v := .ty "bool") (by rfl) B.bool (by decide +kernel) rfl) pa_nil))))))), ?_⟩
  refine ⟨.int i, rfl, .int i, .ty "int", .type "int", .type "int", true, rfl, .ty _, .base (.int i), kit_ty (by decide +kernel), true, rfl, iteT ?_⟩
  exact ⟨.int i, rfl, .int i, .ty "bool", .type "int", .type "bool", false, rfl, .ty _, .base (.int i), kit_ty (by decide +kernel), false, rfl, q⟩
theorem scBetw : FnScope ["value", "least", "most"] ["value", "least", "most"] (defScope sBetw) := ⟨rfl, rfl, rfl, by decide +kernel, rfl, by decide +kernel, by decide +kernel⟩
def spBetw : Sp := fun vs H Q _ => ∃ i lo hi : Int, vs = [.int i, .int lo, .int hi] ∧ lo ≤ i ∧ i ≤ hi ∧ Q (.bl true) H
theorem ok_betw (D : Df K mg "is_between" sBetw ["value", "least", "most"]) (DI : Df K mg "is_integer" sIsInt ["value"]) (B : Bt mg) : FnOk P w K mg base CX0 2 D.f D.fd ["value", "least", "most"] spBetw := by
  have GI : FnOk P w K mg base CX0 1 DI.f DI.fd ["value"] spIsInt := ok_isInt DI B
  refine D.F.ok scBetw (fun vs H Q E h => ?_) (fun cdv A outer s H vs Q E hr h => ?_)
  · obtain ⟨i, lo, hi, rfl, _⟩ := h
    rfl
  obtain ⟨i, lo, hi, rfl, h1, h2, q⟩ := h
  refine ⟨_, pss_one (ps_ret (pe_and (pe_call GI hr (by rfl) DI.g DI.F.kp DI.b .nil pass0 (pa_cons (pv 0) pa_nil)) (pe_one (pe_chain op_le op_le (pv 1) (pv 0) (pv 2))))), ?_⟩
  refine ⟨.int i, rfl, i, rfl, true, rfl, iteT ?_⟩
  refine ⟨_, rfl, _, rfl, _, _, rfl, rfl, _, rfl, ?_⟩
  rw [decide_eq_true h1]
  refine iteT ⟨_, rfl, _, _, rfl, rfl, ?_⟩
  show Q (V.bl (decide (i ≤ hi))) H
  rw [decide_eq_true h2]
  exact q
/-! ### rows_fault -/
theorem scFault : FnScope ["value", "most", "index", "row", "number"] ["value", "most"] (defScope sFault) := ⟨rfl, rfl, rfl, by decide +kernel, rfl, by decide +kernel, by decide +kernel⟩
def spFault (K : PySem.W.Frag) : Sp := fun vs H Q _ => ∃ (a : Addr) (b : Int) (n : Nat) (m : List (List Int)), vs = [.ref a, .int b] ∧ TR K H a m ∧ Sq n m ∧ 1 ≤ n ∧ n ≤ 5 ∧ All (fun x => -b ≤ x ∧ x ≤ b) m ∧ ∀ H', Ext H H' → Q (.int (-1)) H'
theorem ok_fault (D : Df K mg "rows_fault" sFault ["value", "most"]) (DB : Df K mg "is_between" sBetw ["value", "least", "most"]) (DI : Df K mg "is_integer" sIsInt ["value"]) (B : Bt mg) (C : Cn mg) :
    FnOk P w K mg base CX0 3 D.f D.fd ["value", "most"] (spFault K) := by
  have GB : FnOk P w K mg base CX0 2 DB.f DB.fd ["value", "least", "most"] spBetw := ok_betw DB DI B
  obtain ⟨t5, c5⟩ := C.rows
  refine D.F.ok scFault (fun vs H Q E h => ?_) (fun cdv A outer s H vs Q E hr h => ?_)
  · obtain ⟨a, b, n, m, rfl, _⟩ := h
    rfl
  obtain ⟨a, b, n, m, rfl, hT, hq, n1, n5, hA, q⟩ := h
  refine ⟨_, pss_cons (ps_if (PW.pt (pw_or (pt_not (pt_val (pe_callB call_isi (by rfl) B.isi boot_isinstance (pa_cons (pv 0) (pa_cons (pe_bltn (v := .ty "tuple") (by rfl) B.tup (by decide +kernel) rfl) pa_nil)))))
      (pw_or1 (pt_not (pt_chain op_le op_le pe_int (pe_callB call_len_seq (by rfl) B.len PySem.boot_len (pa_cons (pv 0) pa_nil)) (pe_glob (v := .int 5) (by rfl) c5 ⟨_, rfl⟩))))))
      (pss_one (ps_ret pe_non)) pss_nil)
    (pss_cons (ps_for PassesOwn.never rfl (pi_enumT (by rfl) B.enum (pa_cons (pv 0) pa_nil)) (pg_tup rfl (pgs_cons (pg_name (i := 2) scFault.nd rfl (.inl rfl)) (pgs_cons (pg_name (i := 3) scFault.nd rfl (.inl rfl)) pgs_nil)))
      (pss_cons (ps_if (PW.pt (pw_or (pt_not (pt_val (pe_callB call_isi (by rfl) B.isi boot_isinstance (pa_cons (pv 3) (pa_cons (pe_bltn (v := .ty "tuple") (by rfl) B.tup (by decide +kernel) rfl) pa_nil)))))
          (pw_or1 (pt_cmpR op_ne (pe_callB call_len_seq (by rfl) B.len PySem.boot_len (pa_cons (pv 3) pa_nil)) (pe_callB call_len_seq (by rfl) B.len PySem.boot_len (pa_cons (pv 0) pa_nil)) (nomark _)))))
          (pss_one (ps_ret (pv 2))) pss_nil)
      (pss_one (ps_if (pt_not (pt_val (pe_callB (cr_all rfl) (by rfl) B.all boot_all (pa_cons (pe_lc (own := [("number", 4)]) (g := gName 4) (tt := tYes) rfl scFault.nd (pi_tup (pv 3)) (blkOk_by (N := ["value", "most", "index", "row", "number"]) (sc := defScope sFault) (by decide +kernel))
          (fun _ _ _ _ _ => pg_name (i := 4) scFault.nd rfl (Or.inl rfl)) (fun _ _ _ _ _ => pts_nil) (fun _ _ _ _ _ => pe_call GB hr (by rfl) DB.g DB.F.kp DB.b .nil pass0 (pa_cons (pv 4) (pa_cons (pe_un un_neg (pv 1)) (pa_cons (pv 1) pa_nil))))) pa_nil))))
          (pss_one (ps_ret (pv 2))) pss_nil))))
    (pss_one (ps_ret (pe_un un_neg pe_int)))), ?_⟩
  obtain ⟨as, hS, hE⟩ := id hT
  have la : (refsV as).length = n := by rw [List.length_map, hE.1, hq.1]
  -- the value is a tuple of one to five
  refine ⟨.ref a, rfl, .ref a, .ty "tuple", .type "tuple", .type "tuple", true, rfl, .ty _, tyT hS, kit_ty (by decide +kernel), true, rfl, iteF ?_⟩
  refine ⟨.ref a, rfl, a, _, rfl, .inr hS, _, _, rfl, rfl, _, rfl, ?_⟩
  rw [la, decide_eq_true (show (1 : Int) ≤ ((n : Nat) : Int) by omega)]
  refine iteT ⟨_, _, rfl, rfl, _, rfl, ?_⟩
  show if (!decide (((n : Nat) : Int) ≤ 5)) = true then _ else _
  refine iteNS (by omega) ?_
  -- each row
  refine ⟨.ref a, rfl, a, _, rfl, hS, for_enumT (K := K) (a := a) (xs := refsV as) (fun i σ H' => ∃ x2 x3, σ = [some (.ref a), some (.int b), x2, x3, none] ∧ Ext H H') ⟨none, none, rfl, Ext.rfl'⟩ ?_ ?_ ?_⟩
  · rintro i σ H' _ ⟨x2, x3, rfl, e1⟩
    exact hS.ext e1
  · rintro i x σ H1 T hx ⟨x2, x3, rfl, e1⟩ nT
    obtain ⟨p, rfl, hp⟩ := get_refs hx
    obtain ⟨r, hr1, hr2⟩ := hE.get' hp
    have e2 : Ext H (upd H1 T (.tup [.int (i : Nat), .ref p])) := e1.trans (ext_new nT)
    refine ⟨T, _, rfl, SqT.of upd_same, rfl, _, _, rfl, _, _, rfl, rfl, ?_⟩
    have hP := hr2.ext e2
    have lr := hq.2 i r hr1
    refine ⟨.ref p, rfl, .ref p, .ty "tuple", .type "tuple", .type "tuple", true, rfl, .ty _, tyT hP, kit_ty (by decide +kernel), true, rfl, iteF ?_⟩
    refine ⟨.ref p, rfl, p, _, rfl, .inr hP, .ref a, rfl, a, _, rfl, .inr (hS.ext e2), rfl, _, rfl, ?_⟩
    refine iteNS (by rw [la, List.length_map, lr]) ?_
    -- each number of the row
    refine ⟨.ref p, rfl, p, rfl, ⟨_, hP⟩, fun L nL => lc_tup (K := K) (a := p) (xs := intsV r) (fun j H' => Ext (upd H1 T (.tup [.int (i : Nat), .ref p])) H' ∧ H' L = some (.lst ((List.replicate j true).map V.bl)) ∧ j ≤ r.length) ⟨ext_new nL, upd_same, Nat.zero_le _⟩ (fun j H' _ z => hP.ext z.1) ?_ ?_⟩
    · rintro j x H2 hx2 ⟨e3, hL, hj⟩
      obtain ⟨x, rfl, hx3⟩ := get_ints hx2
      obtain ⟨b1, b2⟩ := hA i r j x hr1 hx3
      have hj2 : j < r.length := (List.getElem?_eq_some_iff.mp hx3).1
      refine ⟨rfl, .int x, rfl, .int b, rfl, b, rfl, .int b, rfl, x, -b, b, rfl, b1, b2, _, hL, ?_, ?_, ?_, hj2⟩
      · rw [List.length_map, List.length_replicate]
        exact small1000 (by omega)
      · intro c o z
        have nc : c ≠ L := fun w => by
          have z2 := z
          rw [w, nL] at z2
          cases z2
        rw [upd_ne nc]
        exact e3 _ _ z
      · rw [upd_same, List.replicate_succ', List.map_append]
        rfl
    · rintro H2 ⟨e3, hL, _⟩
      refine ⟨L, _, rfl, SqL.of hL, _, rfl, ?_⟩
      have ea : (List.replicate (intsV r).length true).all id = true := by simp
      rw [ea]
      exact iteF ⟨_, _, rfl, e2.trans e3⟩
  · rintro σ H' ⟨x2, x3, rfl, e1⟩
    exact ⟨1, rfl, q H' e1⟩
end
end Ow
set_option Elab.async false
set_option linter.all false
set_option maxRecDepth 100000
namespace Ow
open PySem PySem.Spec PyProof.Rows L2
/-! ### rows as data -/
def dR (r : List Int) : PyData := .tuple (r.map PyData.int)
def dM (m : List (List Int)) : PyData := .tuple (m.map dR)
def dN (l : List Nat) : PyData := .tuple (l.map fun k : Nat => PyData.int (k : Int))
theorem all_can : ∀ xs : List PyData, (∀ x ∈ xs, x.canLay0 = true) → PyData.canLayAll0 xs = true
  | [], _ => rfl
  | x :: xs, h => by
    simp [PyData.canLayAll0, h x List.mem_cons_self, all_can xs fun y hy => h y (List.mem_cons_of_mem _ hy)]
theorem all_deep (n : Nat) : ∀ xs : List PyData, (∀ x ∈ xs, PyData.depth x ≤ n) → PyData.depthAll xs ≤ n
  | [], _ => Nat.zero_le _
  | x :: xs, h => by
    show max (PyData.depth x) (PyData.depthAll xs) ≤ n
    exact Nat.max_le.mpr ⟨h x List.mem_cons_self, all_deep n xs fun y hy => h y (List.mem_cons_of_mem _ hy)⟩
theorem flat_can {d : PyData} {xs : List PyData} (h : ∀ x ∈ xs, x.canLay0 = true ∧ PyData.depth x = 0) (e : d = .tuple xs) : d.canLay0 = true ∧ PyData.depth d ≤ 1 := by
  subst e
  exact ⟨all_can xs fun x z => (h x z).1, Nat.succ_le_succ (all_deep 0 xs fun x z => Nat.le_of_eq (h x z).2)⟩
theorem dR_can (r : List Int) : (dR r).canLay0 = true ∧ PyData.depth (dR r) ≤ 1 := flat_can (fun x hx => by
  obtain ⟨i, _, rfl⟩ := List.mem_map.mp hx
  exact ⟨rfl, rfl⟩) rfl
theorem dN_can (r : List Nat) : (dN r).canLay0 = true ∧ PyData.depth (dN r) ≤ 1 := flat_can (fun x hx => by
  obtain ⟨i, _, rfl⟩ := List.mem_map.mp hx
  exact ⟨rfl, rfl⟩) rfl
theorem two_shaped {xs : List PyData} (h : ∀ x ∈ xs, x.canLay0 = true ∧ PyData.depth x ≤ 1) : SeqAt.shaped (.tuple xs) = true ∧ SeqAt.shaped (.list xs) = true := by
  have a := all_can xs fun x z => (h x z).1
  have b := all_deep 1 xs fun x z => (h x z).2
  have c : PyData.depth (.tuple xs) ≤ 64 := Nat.le_trans (Nat.succ_le_succ b) (by decide)
  have d : PyData.depth (.list xs) ≤ 64 := Nat.le_trans (Nat.succ_le_succ b) (by decide)
  constructor
  · show ((PyData.tuple xs).canLay0 && decide (PyData.depth (.tuple xs) ≤ 64)) = true
    rw [decide_eq_true c, Bool.and_true]
    exact a
  · show ((PyData.list xs).canLay0 && decide (PyData.depth (.list xs) ≤ 64)) = true
    rw [decide_eq_true d, Bool.and_true]
    exact a
theorem dM_shaped (m : List (List Int)) : SeqAt.shaped (dM m) = true := (two_shaped fun x hx => by
  obtain ⟨r, _, rfl⟩ := List.mem_map.mp hx
  exact dR_can r).1
theorem dM_same (m : List (List Int)) : PyData.eqv (dM m) (dM m) = true := PySem.SeqAt.eqv_refl _ (all_can _ fun x hx => by
  obtain ⟨r, _, rfl⟩ := List.mem_map.mp hx
  exact (dR_can r).1)
section
variable {K : PySem.W.Frag} {H : Hp}
theorem dp_ints : ∀ r : List Int, DpAll K H (intsV r) (r.map PyData.int)
  | [] => .nil
  | x :: r => .cons (.int x) (dp_ints r)
theorem dp_nats : ∀ r : List Nat, DpAll K H (r.map natV) (r.map fun k : Nat => PyData.int (k : Int))
  | [] => .nil
  | x :: r => .cons (.int _) (dp_nats r)
theorem dp_each {β : Type} {F : Addr → β → Prop} {d : β → PyData} (hF : ∀ a b, F a b → Dp K H (.ref a) (d b)) : ∀ (as : List Addr) (bs : List β), Each F as bs → DpAll K H (refsV as) (bs.map d)
  | [], [], _ => .nil
  | [], _ :: _, h => by simp [Each] at h
  | _ :: _, [], h => by simp [Each] at h
  | a :: as, b :: bs, h => .cons (hF a b (h.2 0 a b rfl rfl)) (dp_each hF as bs ⟨by simpa using h.1, fun i x y hx hy => h.2 (i + 1) x y hx hy⟩)
theorem TR.dp {a : Addr} {m : List (List Int)} (h : TR K H a m) : Dp K H (.ref a) (dM m) := by
  obtain ⟨as, h1, h2⟩ := h
  exact .tup h1 (dp_each (fun p r z => .tup z (dp_ints r)) as m h2)
end
/-! ### the facts of the text -/
structure Tx (K : PySem.W.Frag) (mg : Str → Option Value) where
  dInt : Df K mg "is_integer" sIsInt ["value"]
  dBetw : Df K mg "is_between" sBetw ["value", "least", "most"]
  dRank : Df K mg "rank_of" sRank ["lot"]
  dFault : Df K mg "rows_fault" sFault ["value", "most"]
  dCheck : Df K mg "check_signs" sCheck ["value"]
  dRings : Df K mg "rings_of" sRings ["many"]
  dWorth : Df K mg "worth_of" sWorth ["signs", "ring"]
  dIsBad : Df K mg "is_bad" sIsBad ["signs", "ring"]
  dFirst : Df K mg "first_ring" sFirst ["signs"]
  dAlways : Df K mg "always_single" sAlways ["signs"]
  dBadT : Df K mg "bad_table" sBadT ["signs"]
  dCan : Df K mg "_law_can" sCan ["_law_script", "_law_turn"]
  dSip : Df K mg "_law_sip" sSip ["_law_can_here", "_law_top"]
  dPick : Df K mg "_law_pick" sPick ["_law_can_here", "_law_menu"]
  dGrid : Df K mg "_law_grid" sGrid ["_law_can_here", "_law_most", "_law_wide"]
  dDet : Df K mg "_law_det" sDet ["_law_rows"]
  dCut : Df K mg "_law_cut" sCut ["_law_rows", "_law_lot"]
  dFB : Df K mg "_law_first_bad" sFB ["_law_rows"]
  dSigns : Df K mg "_law_signs" sSigns ["_law_can_here"]
  dSign : Df K mg "_law_sign" sSign ["_law_number_here"]
  dFilled : Df K mg "_law_filled" sFilled ["_law_can_here", "_law_signs_here"]
  dRight : Df K mg "_law_right" sRight ["_law_can_here"]
  B : Bt mg
  C : Cn mg
  tC : Addr
  gT : mg "Table" = some (.ref tC)
  fI : Addr
  fdI : FuncData
  FI : Fun K "__init__" "Table.__init__" sTabI fI fdI
  bI : Binds K fdI ["self", "rows"] []
  MT : Mk K tC fI
  cT : Cls K tC
  nR : NoAttr K tC "rows"
  iT : C8.InsC K tC
  fE : Addr
  fdE : FuncData
  FE : Fun K "__eq__" "Table.__eq__" sTabE fE fdE
  bE : Binds K fdE ["self", "other"] []
  eqT : PySem.W.findIn K (.ref tC) "__eq__" = some (some (.ref fE))
  neT : PySem.W.findIn K (.ref tC) "__ne__" = some (some (.builtin "object.__ne__"))
  fnE : PySem.W.isFn K (.ref fE) = true
section
variable {P : Program} {w : World} {K : PySem.W.Frag} {mg : Str → Option Value} {base : Heap}
/-! ### check_signs -/
theorem scCheck : FnScope ["value"] ["value"] (defScope sCheck) := ⟨rfl, rfl, rfl, by decide +kernel, rfl, by decide +kernel, by decide +kernel⟩
def spCheck (K : PySem.W.Frag) : Sp := fun vs H Q _ => ∃ (a : Addr) (n : Nat) (m : List (List Int)), vs = [.ref a] ∧ TR K H a m ∧ Sq n m ∧ 1 ≤ n ∧ n ≤ 5 ∧ All B m ∧ ∀ H', Ext H H' → Q .non H'
theorem ok_check (T : Tx K mg) : FnOk P w K mg base CX0 4 T.dCheck.f T.dCheck.fd ["value"] (spCheck K) := by
  have GF : FnOk P w K mg base CX0 3 T.dFault.f T.dFault.fd ["value", "most"] (spFault K) := ok_fault T.dFault T.dBetw T.dInt T.B T.C
  refine T.dCheck.F.ok scCheck (fun vs H Q E h => ?_) (fun cdv A outer s H vs Q E hr h => ?_)
  · obtain ⟨a, n, m, rfl, _⟩ := h
    rfl
  obtain ⟨a, n, m, rfl, hT, hq, n1, n5, hA, q⟩ := h
  refine ⟨_, pss_one (ps_if (pt_cmpR op_ne (pe_call GF hr (by rfl) T.dFault.g T.dFault.F.kp T.dFault.b .nil pass0 (pa_cons (pv 0) (pa_cons pe_int pa_nil))) (pe_un un_neg pe_int) (nomark _)) (pss_cons ps_never pss_nil) pss_nil), ?_⟩
  refine ⟨.ref a, rfl, a, 1, n, m, rfl, hT, hq, n1, n5, hA, fun H' e => ⟨1, rfl, rfl, _, rfl, iteNS rfl ?_⟩⟩
  exact q H' e
/-! ### Table -/
theorem scTabI : FnScope ["self", "rows"] ["self", "rows"] (defScope sTabI) := ⟨rfl, rfl, rfl, by decide +kernel, rfl, by decide +kernel, by decide +kernel⟩
def spTabI (K : PySem.W.Frag) (C : Addr) : Sp := fun vs H Q _ => ∃ (x dx a : Addr) (n : Nat) (m : List (List Int)), vs = [.ref x, .ref a] ∧ H x = some (.ins C dx []) ∧ TR K H a m ∧ Sq n m ∧ 1 ≤ n ∧ n ≤ 5 ∧ All (fun y => -100000000000000000000 ≤ y ∧ y ≤ 100000000000000000000) m ∧
  ∀ H', Ext H H' → Q .non (upd H' x (.ins C dx [("rows", .ref a)]))
theorem ok_tabI (T : Tx K mg) : FnOk P w K mg base CX0 4 T.fI T.fdI ["self", "rows"] (spTabI K T.tC) := by
  have GF : FnOk P w K mg base CX0 3 T.dFault.f T.dFault.fd ["value", "most"] (spFault K) := ok_fault T.dFault T.dBetw T.dInt T.B T.C
  obtain ⟨tn, cn⟩ := T.C.num
  refine T.FI.ok scTabI (fun vs H Q E h => ?_) (fun cdv A outer s H vs Q E hr h => ?_)
  · obtain ⟨x, dx, a, n, m, rfl, _⟩ := h
    rfl
  obtain ⟨x, dx, a, n, m, rfl, hx, hT, hq, n1, n5, hA, q⟩ := h
  refine ⟨_, pss_cons (ps_if (pt_cmpR op_ne (pe_call GF hr (by rfl) T.dFault.g T.dFault.F.kp T.dFault.b .nil pass0 (pa_cons (pv 1) (pa_cons (pe_glob (v := .int 100000000000000000000) (by rfl) cn ⟨_, rfl⟩) pa_nil))) (pe_un un_neg pe_int) (nomark _)) (pss_cons ps_never pss_nil) pss_nil)
    (pss_one (ps_fld (pv 0) (pv 1) rfl)), ?_⟩
  refine ⟨.ref a, rfl, a, _, n, m, rfl, hT, hq, n1, n5, hA, fun H' e => ⟨1, rfl, rfl, _, rfl, iteNS rfl ?_⟩⟩
  refine ⟨.ref a, rfl, .ref x, rfl, x, _, dx, _, rfl, e _ _ hx, T.cT, T.nR, by decide, ?_⟩
  exact q H' e
theorem scTabE : FnScope ["self", "other"] ["self", "other"] (defScope sTabE) := ⟨rfl, rfl, rfl, by decide +kernel, rfl, by decide +kernel, by decide +kernel⟩
/-- two instances with the same rows -/
def RT (K : PySem.W.Frag) (C : Addr) (a b : Addr) (H : Hp) : Prop := ∃ (dx dy p q : Addr) (m : List (List Int)), H a = some (.ins C dx [("rows", .ref p)]) ∧ H b = some (.ins C dy [("rows", .ref q)]) ∧ TR K H p m ∧ TR K H q m
theorem ok_tabE (T : Tx K mg) : FnOk P w K mg base CX0 1 T.fE T.fdE ["self", "other"] (spEq (RT K T.tC)) := by
  refine T.FE.ok scTabE (fun vs H Q E h => ?_) (fun cdv A outer s H vs Q E hr h => ?_)
  · obtain ⟨a, b, rfl, _⟩ := h
    rfl
  obtain ⟨a, b, rfl, ⟨dx, dy, p, q', m, ha, hb, hp, hq⟩, q⟩ := h
  refine ⟨_, pss_one (ps_ret (pe_and (pe_callB (C8.call_isC T.iT) (by rfl) T.B.isi boot_isinstance (pa_cons (pv 1) (pa_cons (pe_glob (v := .ref T.tC) (by rfl) T.gT rfl) pa_nil)))
    (pe_one (pe_cmpR (op_eqD hr.units) (pe_fld (pv 0) rfl) (pe_fld (pv 1) rfl) (nomark _))))), ?_⟩
  refine ⟨.ref b, rfl, b, dy, _, rfl, hb, true, rfl, iteT ?_⟩
  refine ⟨.ref a, rfl, a, _, dx, _, _, rfl, ha, T.cT, T.nR, rfl, ?_⟩
  refine ⟨.ref b, rfl, b, _, dy, _, _, rfl, hb, T.cT, T.nR, rfl, ?_⟩
  refine ⟨dM m, dM m, hp.dp, hq.dp, dM_shaped m, dM_shaped m, ?_⟩
  rw [dM_same]
  exact q H Ext.rfl'
end
end Ow
set_option Elab.async false
set_option linter.all false
set_option maxRecDepth 100000
namespace Ow
open PySem PySem.Spec PyProof.Rows L2
/-! ### the rings and lots in order -/
theorem rings_ordered : ∀ n, n ≤ 4 → (rings n).Pairwise fun a b => leK a b = true := by
  intro n hn
  rcases (show n = 0 ∨ n = 1 ∨ n = 2 ∨ n = 3 ∨ n = 4 by omega) with rfl | rfl | rfl | rfl | rfl <;> decide +kernel
theorem rings_sort (n : Nat) (hn : n ≤ 4) : (rings n).mergeSort leK = rings n := List.mergeSort_of_pairwise (rings_ordered n hn)
def lotsS : Nat → List (List Nat)
  | 1 => [[0]]
  | 2 => [[0], [1], [0, 1]]
  | 3 => [[0], [1], [2], [0, 1], [0, 2], [1, 2], [0, 1, 2]]
  | 4 => [[0], [1], [2], [3], [0, 1], [0, 2], [0, 3], [1, 2], [1, 3], [2, 3], [0, 1, 2], [0, 1, 3], [0, 2, 3], [1, 2, 3], [0, 1, 2, 3]]
  | _ => []
theorem lots_ordered : ∀ n, 1 ≤ n → n ≤ 4 → ([] :: lotsS n).Pairwise fun a b => leK a b = true := by
  intro n h1 hn
  rcases (show n = 1 ∨ n = 2 ∨ n = 3 ∨ n = 4 by omega) with rfl | rfl | rfl | rfl <;> decide +kernel
theorem lots_perm : ∀ n, 1 ≤ n → n ≤ 4 → ([] :: lotsS n).Perm (lotsU n) := by
  intro n h1 hn
  rcases (show n = 1 ∨ n = 2 ∨ n = 3 ∨ n = 4 by omega) with rfl | rfl | rfl | rfl <;> decide +kernel
theorem leK_total : PySem.W.TotalLe leK := by unfold leK PySem.W.dataLe; exact PySem.W.sortLe_total _ _ _
theorem leK_anti : ∀ n, 1 ≤ n → n ≤ 4 → ∀ a ∈ lotsU n, ∀ b ∈ lotsU n, leK a b = true → leK b a = true → a = b := by
  intro n h1 hn
  rcases (show n = 1 ∨ n = 2 ∨ n = 3 ∨ n = 4 by omega) with rfl | rfl | rfl | rfl <;> decide +kernel
theorem lots_sort (n : Nat) (h1 : 1 ≤ n) (hn : n ≤ 4) : (lotsU n).mergeSort leK = [] :: lotsS n := by
  have p : ((lotsU n).mergeSort leK).Perm ([] :: lotsS n) := (List.mergeSort_perm _ _).trans (lots_perm n h1 hn).symm
  refine List.Perm.eq_of_pairwise (le := fun a b => leK a b = true) (fun a b ha hb x y => ?_) (PySem.W.sort_pairwise leK_total _) (lots_ordered n h1 hn) p
  exact leK_anti n h1 hn a ((List.mergeSort_perm _ _).mem_iff.mp ha) b ((lots_perm n h1 hn).mem_iff.mp hb) x y
end Ow
set_option Elab.async false
set_option linter.all false
set_option maxRecDepth 100000
namespace Ow
open PySem PySem.Spec PyProof.Rows L2
/-! ### loops in general -/
theorem any_list {K : PySem.W.Frag} {a : Addr} {xs : List V} {g : TG} {σ0 : L2.St} {Bd : (Hp → Prop) → L2.St → Hp → Prop} {D0 : Hp → Prop} {H1 : Hp} (Pv : Nat → Hp → Prop) (h0 : Pv 0 H1) (hl : ∀ i H, i ≤ xs.length → Pv i H → SqL K H a xs)
    (hs : ∀ i x H, xs[i]? = some x → Pv i H → g x σ0 H fun σ2 H2 => Bd (Pv (i + 1)) σ2 H2) (hd : ∀ H, Pv xs.length H → D0 H) :
    ∃ W : Nat → Nat → Hp → Prop, (∃ m, W 0 m H1) ∧ ∀ i m H, W i m H → ((Itl K a).stop i H ∧ D0 H) ∨ ((Itl K a).go i H ∧ ∃ Nx : Hp → Prop, (∀ H', Nx H' → ∃ m', m' < m ∧ W (i + 1) m' H') ∧ ∀ x H', (Itl K a).yld i H x H' → g x σ0 H' fun σ2 H2 => Bd Nx σ2 H2) := by
  refine ⟨fun i m H => m = xs.length - i ∧ i ≤ xs.length ∧ Pv i H, ⟨xs.length, by simp, Nat.zero_le _, h0⟩, ?_⟩
  rintro i m H ⟨rfl, hi, p⟩
  have q := hl i H hi p
  by_cases hlt : i < xs.length
  · refine .inr ⟨⟨xs, xs[i], q, by simp [hlt]⟩, Pv (i + 1), fun H' p' => ⟨xs.length - (i + 1), by omega, rfl, hlt, p'⟩, fun x H' y => ?_⟩
    obtain ⟨e, y⟩ := y
    subst e
    exact hs i x _ (y xs q) p
  · have e : i = xs.length := by omega
    subst e
    exact .inl ⟨⟨xs, q, Nat.le_refl _⟩, hd H p⟩
theorem any_range {lo : Int} {n : Nat} {g : TG} {σ0 : L2.St} {Bd : (Hp → Prop) → L2.St → Hp → Prop} {D0 : Hp → Prop} {H1 : Hp} (Pv : Nat → Hp → Prop) (h0 : Pv 0 H1)
    (hs : ∀ i H, i < n → Pv i H → g (.int (lo + i)) σ0 H fun σ2 H2 => Bd (Pv (i + 1)) σ2 H2) (hd : ∀ H, Pv n H → D0 H) :
    ∃ W : Nat → Nat → Hp → Prop, (∃ m, W 0 m H1) ∧ ∀ i m H, W i m H → ((Itr lo n).stop i H ∧ D0 H) ∨ ((Itr lo n).go i H ∧ ∃ Nx : Hp → Prop, (∀ H', Nx H' → ∃ m', m' < m ∧ W (i + 1) m' H') ∧ ∀ x H', (Itr lo n).yld i H x H' → g x σ0 H' fun σ2 H2 => Bd Nx σ2 H2) := by
  refine ⟨fun i m H => m = n - i ∧ i ≤ n ∧ Pv i H, ⟨n, by simp, Nat.zero_le _, h0⟩, ?_⟩
  rintro i m H ⟨rfl, hi, p⟩
  by_cases hlt : i < n
  · refine .inr ⟨hlt, Pv (i + 1), fun H' p' => ⟨n - (i + 1), by omega, rfl, hlt, p'⟩, fun x H' y => ?_⟩
    obtain ⟨e, y⟩ := y
    subst e y
    exact hs i _ hlt p
  · have e : i = n := by omega
    subst e
    exact .inl ⟨Nat.le_refl _, hd H p⟩
/-! ### lists of tuples of places -/
abbrev natsV (l : List Nat) : List V := l.map natV
abbrev EN (K : PySem.W.Frag) (H : Hp) (as : List Addr) (ls : List (List Nat)) : Prop := Each (fun p r => SqT K H p (natsV r)) as ls
theorem EN.ext {K : PySem.W.Frag} {H H' : Hp} {as : List Addr} {ls : List (List Nat)} (h : EN K H as ls) (e : Ext H H') : EN K H' as ls := h.mono fun _ _ z => z.ext e
theorem get_nats {r : List Nat} {i : Nat} {v : V} (h : (natsV r)[i]? = some v) : ∃ x : Nat, v = .int (x : Int) ∧ r[i]? = some x := by
  rw [List.getElem?_map] at h
  cases e : r[i]? with
  | none =>
    rw [e] at h
    cases h
  | some x =>
    rw [e] at h
    exact ⟨x, (Option.some.inj h).symm, rfl⟩
theorem nat_at {r : List Nat} {i : Nat} {x : Nat} (h : r[i]? = some x) : (natsV r)[i]? = some (.int (x : Int)) := by rw [List.getElem?_map, h]; rfl
theorem flat_nats (r : List Nat) : (natsV r).all flatV = true := by
  rw [List.all_eq_true]
  intro x hx
  obtain ⟨k, _, rfl⟩ := List.mem_map.mp hx
  rfl
theorem in_nats (p : Nat) : ∀ r : List Nat, inV (.int (p : Int)) (natsV r) = decide (p ∈ r)
  | [] => rfl
  | x :: r => by
    show (eqV (.int (x : Int)) (.int (p : Int)) || inV (.int (p : Int)) (natsV r)) = _
    rw [in_nats p r]
    have e : eqV (.int (x : Int)) (.int (p : Int)) = decide (x = p) := by
      by_cases h : x = p
      · subst h
        simp [eqV]
      · have h2 : ((x : Int) = (p : Int)) ↔ False := ⟨fun z => h (Int.ofNat.inj z), False.elim⟩
        simp [eqV, h, h2]
    rw [e]
    by_cases h : x = p
    · subst h
      simp
    · have h3 : ¬ p = x := fun z => h z.symm
      simp [h, h3]
theorem sort_zip {F : Addr → List Nat → Prop} {as : List Addr} {ls : List (List Nat)} (h : Each F as ls) : ∃ bs : List (Addr × List Nat), bs.map Prod.fst = as ∧ (∀ p ∈ bs, F p.1 p.2) ∧
    Each F ((bs.mergeSort fun x y => leK x.2 y.2).map Prod.fst) (ls.mergeSort leK) := by
  have hb : ∀ p ∈ as.zip ls, F p.1 p.2 := fun p hp => by
    obtain ⟨i, hi⟩ := List.mem_iff_getElem?.mp hp
    obtain ⟨a, b⟩ := List.getElem?_zip_eq_some.mp hi
    exact h.2 i _ _ a b
  refine ⟨as.zip ls, List.map_fst_zip (by rw [h.1]; exact Nat.le_refl _), hb, ?_⟩
  have e : ls.mergeSort leK = ((as.zip ls).mergeSort fun x y => leK x.2 y.2).map Prod.snd := by
    rw [PySem.W.sort_maps (s := leK) Prod.snd fun _ _ _ _ => rfl, List.map_snd_zip (by rw [h.1]; exact Nat.le_refl _)]
  rw [e]
  exact Each.of_zip fun p hp => hb p ((List.mergeSort_perm _ _).mem_iff.mp hp)
theorem pa_starK {X : Cx} {K : PySem.W.Frag} {e : Expr} {es : List Expr} {te : TE} {t : TA} {p : Pos} (hK : X.K = K) (he : PE X e te) (hr : PA X es t) (hs : starEach (.Starred e p :: es) X.env = (true, eval e X.env) :: starEach es X.env := by rfl) : PA X (.Starred e p :: es) (StX.tStar K te t) := by
  subst hK
  exact StX.pa_star he hr hs
theorem iteTT {b : Bool} {A B : Prop} (hb : b = true) (h : A) : if b = true then A else B := by
  subst hb
  exact iteT h
theorem iteFF {b : Bool} {A B : Prop} (hb : b = false) (h : B) : if b = true then A else B := by
  subst hb
  exact iteF h
/-! ### a list that grows -/
theorem sqT_at {K : PySem.W.Frag} {H : Hp} {p a : Addr} {ys xs : List V} {o : HO} (hp : H p = some (.lst ys)) (h : SqT K H a xs) : SqT K (upd H p o) a xs := by
  have go : ∀ o', H a = some o' → (∀ ys, o' ≠ .lst ys) → upd H p o a = some o' := fun o' e z => by
    have ne : a ≠ p := fun w => by
      rw [w, hp] at e
      exact z ys (Option.some.inj e).symm
    rw [upd_ne ne]
    exact e
  rcases h with (h | ⟨o2, h⟩) | h
  · exact .inl (.inl (go _ h fun ys z => by cases z))
  · exact .inl (.inr ⟨o2, go _ h fun ys z => by cases z⟩)
  · exact .inr h
theorem ext_at {H0 H : Hp} {p : Addr} {o : HO} (h0 : H0 p = none) (e : Ext H0 H) : Ext H0 (upd H p o) := fun a o' z => by
  have ne : a ≠ p := fun w => by
    rw [w, h0] at z
    cases z
  rw [upd_ne ne]
  exact e _ _ z
theorem push_ok {β : Type} {F : Hp → Addr → β → Prop} {H0 H : Hp} {p t : Addr} {ae : List Addr} {bs : List β} {r : β} (hF : ∀ o a b, F H a b → F (upd H p o) a b) (h0 : H0 p = none) (e : Ext H0 H) (hE : Each (F H) ae bs) (hr : F H t r) :
    Ext H0 (upd H p (.lst (refsV ae ++ [.ref t]))) ∧ upd H p (.lst (refsV ae ++ [.ref t])) p = some (.lst (refsV (ae ++ [t]))) ∧ Each (F (upd H p (.lst (refsV ae ++ [.ref t])))) (ae ++ [t]) (bs ++ [r]) := by
  refine ⟨ext_at h0 e, ?_, (hE.mono fun a b z => hF _ _ _ z).snoc (hF _ _ _ hr)⟩
  rw [upd_same, refsV, refsV, List.map_append]
  rfl
/-- .. by a new tuple -/
theorem push_new {K : PySem.W.Frag} {β : Type} {G : β → List V} {H0 H : Hp} {p t : Addr} {ae : List Addr} {bs : List β} {r : β} (h0 : H0 p = none) (e : Ext H0 H) (hl : H p = some (.lst (refsV ae))) (ht : H t = none) (hE : Each (fun a b => SqT K H a (G b)) ae bs) :
    upd H t (.tup (G r)) p = some (.lst (refsV ae)) ∧ Ext H0 (upd (upd H t (.tup (G r))) p (.lst (refsV ae ++ [.ref t]))) ∧ upd (upd H t (.tup (G r))) p (.lst (refsV ae ++ [.ref t])) p = some (.lst (refsV (ae ++ [t]))) ∧
      Each (fun a b => SqT K (upd (upd H t (.tup (G r))) p (.lst (refsV ae ++ [.ref t]))) a (G b)) (ae ++ [t]) (bs ++ [r]) := by
  have ne : p ≠ t := ne_of_none hl ht
  have hl2 : upd H t (.tup (G r)) p = some (.lst (refsV ae)) := by rw [upd_ne ne]; exact hl
  have e2 : Ext H (upd H t (.tup (G r))) := ext_new ht
  exact ⟨hl2, push_ok (F := fun H a b => SqT K H a (G b)) (fun o a b z => sqT_at hl2 z) h0 (e.trans e2) (hE.mono fun a b z => z.ext e2) (SqT.of upd_same)⟩
/-! ### rings_of -/
def extR (n : Nat) (r : List Nat) : List (List Nat) := ((List.range' (r.headD 0 + 1) (n - (r.headD 0 + 1))).filter fun p => decide (p ∉ r)).map fun p => r ++ [p]
theorem ends_shape : ∀ n, n ≤ 4 → ∀ k, k ≤ 4 → (ends n k).length ≤ 24 ∧ ∀ r ∈ ends n k, r.length = k + 1 ∧ ∀ x ∈ r, x < n := by decide +kernel
theorem found_small : ∀ n, n ≤ 4 → ∀ k, k ≤ 4 → (found n k).length ≤ 100 := by decide +kernel
theorem ends_some : ∀ n, n ≤ 4 → ∀ k, k ≤ 4 → ends n k ≠ [] → k < n := by decide +kernel
theorem ends_none : ∀ n, n ≤ 4 → ∀ k, k ≤ 4 → ends n k = [] → n ≤ k := by decide +kernel
theorem extR_small (n : Nat) (h : n ≤ 4) (r : List Nat) : (extR n r).length ≤ 4 := by
  unfold extR
  rw [List.length_map]
  refine Nat.le_trans (List.length_filter_le _ _) ?_
  rw [List.length_range']
  omega
section
variable {P : Program} {w : World} {K : PySem.W.Frag} {mg : Str → Option Value} {base : Heap}
theorem scRings : FnScope ["many", "found", "ends", "place", "ring"] ["many"] (defScope sRings) := ⟨rfl, rfl, rfl, by decide +kernel, rfl, by decide +kernel, by decide +kernel⟩
def spRings (K : PySem.W.Frag) : Sp := fun vs H Q _ => ∃ n : Nat, vs = [.int (n : Int)] ∧ 1 ≤ n ∧ n ≤ 4 ∧ ∀ (H' : Hp) (p : Addr) (as : List Addr), Ext H H' → SqL K H' p (refsV as) → EN K H' as (rings n) → Q (.ref p) H'
theorem ok_rings (T : Tx K mg) : FnOk P w K mg base CX0 5 T.dRings.f T.dRings.fd ["many"] (spRings K) := by
  refine T.dRings.F.ok scRings (fun vs H Q E h => ?_) (fun cdv A outer s H vs Q E hr h => ?_)
  · obtain ⟨n, rfl, _⟩ := h
    rfl
  obtain ⟨n, rfl, n1, n4, q⟩ := h
  refine ⟨_, pss_cons (ps_par (i := 1) (j := 2) rfl scRings.nd rfl rfl (by decide) rfl rfl (pa_cons (pe_lst pa_nil) (pa_cons (pe_lc (own := [("place", 3)]) (g := gName 3) (tt := tYes) rfl scRings.nd (pi_range1 (by rfl) T.B.range (pa_cons (pv 0) pa_nil)) (blkOk_by (N := ["many", "found", "ends", "place", "ring"]) (sc := defScope sRings) (by decide +kernel))
        (fun _ _ _ _ _ => pg_name (i := 3) scRings.nd rfl (Or.inl rfl)) (fun _ _ _ _ _ => pts_nil) (fun _ _ _ _ _ => pe_tup (pa_cons (pv 3) pa_nil))) pa_nil)) rfl)
    (pss_cons (ps_while PassesOwn.never (pt_cmpR (op_neD hr.units) (pv 2) (pe_lst pa_nil) (nomark _))
      (pss_cons (ps_set (i := 1) scRings.nd rfl (Or.inl rfl) (pe_lst (StX.pa_star (pv 1) (StX.pa_star (pv 2) pa_nil))))
      (pss_one (ps_setLc2 (i := 2) (own := [("ring", 4), ("place", 3)]) (vs1 := [3]) (g := gName 4) (g1 := gName 3) (tt := tYes) rfl scRings.nd rfl rfl (sw_true rfl rfl rfl (by decide +kernel)) (pi_list (pv 2)) (blkOk_by (N := ["many", "found", "ends", "place", "ring"]) (sc := defScope sRings) (by decide +kernel)) (by decide)
        (fun _ _ _ _ _ => pg_name (i := 4) scRings.nd rfl (Or.inl rfl)) (fun _ _ _ _ _ => pts_nil)
        (fun _ _ _ _ _ => pi_range2 (by rfl) T.B.range (pa_cons (pe_op op_add (pe_ix (r := rIxT K) ix_tup (pv 4) pe_int (fun _ _ => rfl)) pe_int) (pa_cons (pv 0) pa_nil)))
        (fun _ _ _ _ _ => pg_name (i := 3) scRings.nd rfl (Or.inl rfl)) (fun _ _ _ _ _ => pts_one (pt_cmpR (r := rIn K true) op_notIn_seq (pv 3) (pv 4) (by rfl)))
        (fun _ _ _ _ _ => pe_tup (pa_starK (K := K) rfl (pv 4) (pa_cons (pv 3) pa_nil)))))))
    (pss_one (ps_ret (pe_callBK (cr_sortKey T.dRank.F T.B.len (hr.mono (by decide))) (by rfl) T.B.srt (by decide +kernel) (pa_cons (pv 1) pa_nil) (pk_cons (pe_glob (v := .ref T.dRank.f) (by rfl) T.dRank.g rfl) pk_nil))))), ?_⟩
  refine ⟨by decide, fun pf hpf => ⟨.int n, rfl, n, rfl, by omega, by omega, fun pe hpe => ?_⟩⟩
  have e0 : ((n : Int)).toNat = n := by omega
  rw [e0]
  refine lc_range (fun i H' => i ≤ n ∧ Ext (upd H pf (.lst [])) H' ∧ ∃ ae : List Addr, H' pe = some (.lst (refsV ae)) ∧ ae.length = i ∧ EN K H' ae ((List.range i).map fun p => [p])) ⟨Nat.zero_le _, ext_new hpe, [], upd_same, rfl, Each.nil⟩ ?_ ?_
  · rintro i H' hi ⟨_, e1, ae, hae, hl, hE⟩
    have e3 : (0 : Int) + (i : Int) = ((i : Nat) : Int) := by omega
    rw [e3]
    refine ⟨rfl, .int (i : Int), rfl, by show 1 ≤ sizeLine; decide, fun t ht => ?_⟩
    obtain ⟨p1, p2, p3, p4⟩ := push_new (G := natsV) (r := [i]) hpe e1 hae ht hE
    refine ⟨refsV ae, p1, ?_, hi, p2, ae ++ [t], p3, ?_, ?_⟩
    · rw [List.length_map, hl]
      exact small1000 (by omega)
    · rw [List.length_append, hl]
      rfl
    · rw [List.range_succ, List.map_append]
      exact p4
  · rintro H1 ⟨_, e1, ae, hae, hl, hE⟩
    refine ⟨_, _, rfl, ?_⟩
    have hpf1 : H1 pf = some (.lst []) := e1 _ _ upd_same
    have eH : Ext H H1 := (ext_new hpf).trans e1
    refine ⟨fun m σ H' => ∃ (k : Nat) (p2 p3 : Addr) (a2 a3 : List Addr), k ≤ n ∧ m = n - k ∧ σ = [some (.int n), some (.ref p2), some (.ref p3), none, none] ∧ Ext H H' ∧ SqL K H' p2 (refsV a2) ∧ EN K H' a2 (found n k) ∧ SqL K H' p3 (refsV a3) ∧ EN K H' a3 (ends n k),
      ⟨n, 0, pf, pe, [], ae, Nat.zero_le _, rfl, rfl, eH, SqL.of hpf1, Each.nil, SqL.of hae, hE⟩, ?_⟩
    rintro m σ H2 ⟨k, p2, p3, a2, a3, hk, rfl, rfl, e2, h2, E2, h3, E3⟩
    refine ⟨_, rfl, by decide, fun z hz => ⟨.list ((ends n k).map dN), .list [], ?_, ?_, (two_shaped fun x hx => ?_).2, rfl, ?_⟩⟩
    · exact .lst (h3.ext (ext_new hz)) (dp_each (fun a b w => .tup w (dp_nats b)) a3 _ (E3.ext (ext_new hz)))
    · exact .lst (SqL.of upd_same) .nil
    · obtain ⟨r, _, rfl⟩ := List.mem_map.mp hx
      exact dN_can r
    refine ⟨_, rfl, ?_⟩
    have ev : PyData.eqv (.list ((ends n k).map dN)) (.list []) = decide (ends n k = []) := by
      cases e : ends n k with
      | nil => rfl
      | cons r rs => rfl
    rw [ev]
    have e3 : Ext H (upd H2 z (.lst [])) := e2.trans (ext_new hz)
    have h2' := h2.ext (ext_new (o := .lst []) hz)
    have h3' := h3.ext (ext_new (o := .lst []) hz)
    have E2' := E2.ext (ext_new (o := .lst []) hz)
    have E3' := E3.ext (ext_new (o := .lst []) hz)
    generalize upd H2 z (.lst []) = H3 at e3 h2' h3' E2' E3' ⊢
    have sh := ends_shape n n4 k (by omega)
    by_cases hend : ends n k = []
    · -- the end
      rw [decide_eq_true hend]
      refine iteFF rfl ?_
      have hkn : k = n := Nat.le_antisymm hk (ends_none n n4 k (by omega) hend)
      subst hkn
      obtain ⟨bs, hb1, hb2, hb3⟩ := sort_zip E2'
      refine ⟨.ref p2, rfl, p2, bs, rfl, rfl, ?_, hb2, fun p hp => ?_⟩
      · have e5 : (bs.map fun p => V.ref p.1) = refsV a2 := by
          rw [← hb1, refsV, List.map_map]
          rfl
        rw [e5]
        exact h2'
      · have e5 : ∀ l : List (Addr × List Nat), (l.map fun p => V.ref p.1) = refsV (l.map Prod.fst) := fun l => by
          rw [refsV, List.map_map]
          rfl
        rw [e5]
        refine q _ p _ (e3.trans (ext_new hp)) (SqL.of upd_same) ?_
        have e6 := hb3
        rw [show found k k = rings k from rfl, rings_sort k n4] at e6
        exact EN.ext e6 (ext_new hp)
    · -- a round
      have hkn : k < n := ends_some n n4 k (by omega) hend
      rw [decide_eq_false hend]
      refine iteTT rfl ⟨fun σ' H' => ∃ (p2 p3 : Addr) (a2 a3 : List Addr), σ' = [some (.int n), some (.ref p2), some (.ref p3), none, none] ∧ Ext H H' ∧ SqL K H' p2 (refsV a2) ∧ EN K H' a2 (found n (k + 1)) ∧ SqL K H' p3 (refsV a3) ∧ EN K H' a3 (ends n (k + 1)),
        fun σ' H' ⟨p2, p3, a2, a3, w1, w2, w3, w4, w5, w6⟩ => ⟨n - (k + 1), by omega, k + 1, p2, p3, a2, a3, hkn, rfl, w1, w2, w3, w4, w5, w6⟩, ?_⟩
      have l2 : a2.length ≤ 100 := by rw [E2'.1]; exact found_small n n4 k (by omega)
      have l3 : a3.length ≤ 24 := by rw [E3'.1]; exact sh.1
      have ec : refsV a2 ++ (refsV a3 ++ []) = refsV (a2 ++ a3) := by rw [List.append_nil, refsV, refsV, refsV, List.map_append]
      refine ⟨.ref p2, rfl, p2, _, rfl, .inr h2', .ref p3, rfl, p3, _, rfl, .inr h3', ?_, fun l hl => ?_⟩
      · rw [ec, List.length_map, List.length_append]
        exact Nat.le_of_lt (small1000 (by omega))
      rw [ec]
      have e4 : Ext H3 (upd H3 l (.lst (refsV (a2 ++ a3)))) := ext_new hl
      have hl4 : upd H3 l (.lst (refsV (a2 ++ a3))) l = some (.lst (refsV (a2 ++ a3))) := upd_same
      generalize upd H3 l (.lst (refsV (a2 ++ a3))) = H4 at e4 hl4 ⊢
      refine ⟨.ref p3, rfl, p3, rfl, ⟨_, h3'.ext e4⟩, fun D hD => any_list (K := K) (a := p3) (xs := refsV a3) (fun i H' => Ext H4 H' ∧ ∃ acc : List Addr, H' D = some (.lst (refsV acc)) ∧ EN K H' acc (((ends n k).take i).flatMap (extR n)) ∧ acc.length ≤ 4 * i) ⟨ext_new hD, [], upd_same, Each.nil, Nat.le_refl _⟩ (fun i H' _ w => h3'.ext (e4.trans w.1)) ?_ ?_⟩
      · rintro i x H5 hx ⟨e5, acc, hacc, hE, hlen⟩
        obtain ⟨q1, rfl, hq1⟩ := get_refs hx
        obtain ⟨r, hr1, hr2⟩ := E3'.get' hq1
        have hi24 : i < 24 := Nat.lt_of_lt_of_le (List.getElem?_eq_some_iff.mp hq1).1 l3
        obtain ⟨hr3, hr4⟩ := sh.2 r (List.mem_of_getElem? hr1)
        obtain ⟨r0, rt, rfl⟩ : ∃ r0 rt, r = r0 :: rt := by
          cases r with
          | nil => cases hr3
          | cons r0 rt => exact ⟨r0, rt, rfl⟩
        have hr0 : r0 < n := hr4 r0 List.mem_cons_self
        have hT : SqT K H5 q1 (natsV (r0 :: rt)) := hr2.ext (e4.trans e5)
        refine ⟨rfl, .ref q1, rfl, q1, _, 0, _, rfl, rfl, hT, atI_nat (j := 0) rfl, _, _, rfl, rfl, .int n, rfl, _, _, rfl, ⟨by omega, by omega, by omega, by omega⟩, ?_⟩
        have en : ((n : Int) - ((r0 : Int) + 1)).toNat = n - (r0 + 1) := by omega
        rw [en]
        refine any_range (fun j H' => Ext H4 H' ∧ ∃ acc : List Addr, H' D = some (.lst (refsV acc)) ∧ EN K H' acc (((ends n k).take i).flatMap (extR n) ++ ((List.range' (r0 + 1) j).filter fun p => decide (p ∉ r0 :: rt)).map fun p => (r0 :: rt) ++ [p]) ∧ acc.length ≤ 4 * i + j)
          ⟨e5, acc, hacc, by rw [List.range'_zero, List.filter_nil, List.map_nil, List.append_nil]; exact hE, hlen⟩ ?_ ?_
        · rintro j H6 hj ⟨e6, ac, hac, hE6, hl6⟩
          have ep : ((r0 : Int) + 1) + (j : Int) = ((r0 + 1 + j : Nat) : Int) := by omega
          rw [ep]
          have hT6 : SqT K H6 q1 (natsV (r0 :: rt)) := hr2.ext (e4.trans e6)
          refine ⟨rfl, .int ((r0 + 1 + j : Nat) : Int), rfl, .ref q1, rfl, q1, natsV (r0 :: rt), rfl, .inr hT6, rfl, flat_nats _, _, rfl, ?_⟩
          show if (!inV (.int ((r0 + 1 + j : Nat) : Int)) (natsV (r0 :: rt))) = true then _ else _
          rw [in_nats]
          rw [List.range'_1_concat, List.filter_append]
          by_cases hp : r0 + 1 + j ∈ r0 :: rt
          · refine iteFF (by rw [decide_eq_true hp]; rfl) ⟨e6, ac, hac, ?_, by omega⟩
            rw [show [r0 + 1 + j].filter (fun p => decide (p ∉ r0 :: rt)) = [] from by simp only [List.filter, decide_eq_false (not_not_intro hp)], List.append_nil]
            exact hE6
          · refine iteTT (by rw [decide_eq_false hp]; rfl) ?_
            have et : natsV (r0 :: rt) ++ [V.int ((r0 + 1 + j : Nat) : Int)] = natsV ((r0 :: rt) ++ [r0 + 1 + j]) := by rw [natsV, natsV, List.map_append]; rfl
            refine ⟨.ref q1, rfl, q1, _, rfl, .inl hT6, .int ((r0 + 1 + j : Nat) : Int), rfl, ?_, fun t ht => ?_⟩
            · show (natsV (r0 :: rt) ++ [V.int ((r0 + 1 + j : Nat) : Int)]).length ≤ sizeLine
              rw [et, List.length_map, List.length_append, hr3]
              exact Nat.le_of_lt (small1000 (show k + 1 + 1 ≤ 1000 by omega))
            show ∃ acc, upd H6 t (.tup (natsV (r0 :: rt) ++ [V.int ((r0 + 1 + j : Nat) : Int)])) D = some (.lst acc) ∧ acc.length < sizeLine ∧ _
            rw [et]
            obtain ⟨w1, w2, w3, w4⟩ := push_new (G := natsV) (r := (r0 :: rt) ++ [r0 + 1 + j]) hD e6 hac ht hE6
            refine ⟨refsV ac, w1, ?_, w2, ac ++ [t], w3, ?_, ?_⟩
            · rw [List.length_map]
              exact small1000 (by omega)
            · rw [show [r0 + 1 + j].filter (fun p => decide (p ∉ r0 :: rt)) = [r0 + 1 + j] from by simp only [List.filter, decide_eq_true hp], List.map_append, ← List.append_assoc]
              exact w4
            · rw [List.length_append]
              exact Nat.add_le_add_right hl6 1
        · rintro H6 ⟨e6, ac, hac, hE6, hl6⟩
          refine ⟨e6, ac, hac, ?_, by omega⟩
          rw [List.take_add_one, hr1, List.flatMap_append]
          show EN K H6 ac (((ends n k).take i).flatMap (extR n) ++ [r0 :: rt].flatMap (extR n))
          rw [List.flatMap_singleton]
          exact hE6
      · rintro H5 ⟨e5, acc, hacc, hE, hlen⟩
        refine ⟨l, D, a2 ++ a3, acc, rfl, (e3.trans e4).trans e5, SqL.of (e5 _ _ hl4), EN.ext (E2'.append E3') (e4.trans e5), SqL.of hacc, ?_⟩
        rw [List.length_map, E3'.1, List.take_length] at hE
        exact hE
end
end Ow
set_option Elab.async false
set_option linter.all false
set_option maxRecDepth 100000
namespace Ow
open PySem PySem.Spec PyProof.Rows L2
theorem sIx_one (n d : Nat) : HT.sIx n d (some 1) = min 1 n := HT.sIx_nat n d 1
theorem cut_one (xs : List V) : cutV xs (some 1) none = xs.drop 1 := by
  unfold cutV
  rw [sIx_one, HT.sIx_none]
  rw [List.take_of_length_le (by rw [List.length_drop]; exact Nat.le_refl _)]
  cases xs with
  | nil => rfl
  | cons x xs =>
    rw [show min 1 (x :: xs).length = 1 from by rw [List.length_cons]; omega]
theorem not_whole {xs : List V} (h : xs ≠ []) : ¬ (HT.sIx xs.length 0 (some 1) = 0 ∧ HT.sIx xs.length xs.length none = xs.length) := by
  rw [sIx_one]
  cases xs with
  | nil => exact absurd rfl h
  | cons x xs =>
    rw [List.length_cons]
    omega
theorem nexts_V {r0 : Nat} {rt : List Nat} : (natsV (r0 :: rt)).drop 1 ++ [V.int (r0 : Int)] = natsV (nexts (r0 :: rt)) := by
  show natsV rt ++ [natV r0] = natsV (rt ++ [r0])
  rw [natsV, natsV, List.map_append]
  rfl
theorem nexts_len {r0 : Nat} {rt : List Nat} : (nexts (r0 :: rt)).length = (r0 :: rt).length := by
  show (rt ++ [r0]).length = _
  rw [List.length_append]
  rfl
theorem nexts_mem {r0 : Nat} {rt : List Nat} {x : Nat} (h : x ∈ nexts (r0 :: rt)) : x ∈ r0 :: rt := by
  have z : x ∈ rt ++ [r0] := h
  rcases List.mem_append.mp z with z | z
  · exact List.mem_cons_of_mem _ z
  · rw [List.mem_singleton.mp z]
    exact List.mem_cons_self
theorem getD_at {l : List Nat} {i x : Nat} (h : l[i]? = some x) : l.getD i 0 = x := by rw [List.getD_eq_getElem?_getD, h, Option.getD_some]
theorem B_one : B 1 := ⟨by decide, by decide⟩
theorem B_zero : B 0 := ⟨by decide, by decide⟩
theorem prodTo_B {f : Nat → Int} (h : ∀ i, B (f i)) : ∀ n, B (prodTo f n)
  | 0 => B_one
  | n + 1 => (prodTo_B h n).mul (h n)
theorem cell_B {m : List (List Int)} (h : All B m) (i j : Nat) : B (cell m i j) := by
  unfold cell
  rw [List.getD_eq_getElem?_getD, List.getD_eq_getElem?_getD]
  cases e : m[i]? with
  | none => exact B_zero
  | some r =>
    rw [Option.getD_some]
    cases e2 : r[j]? with
    | none => exact B_zero
    | some x => exact h i r j x e e2
section
variable {P : Program} {w : World} {K : PySem.W.Frag} {mg : Str → Option Value} {base : Heap}
/-! ### worth_of -/
theorem scWorth : FnScope ["signs", "ring", "found", "one", "other"] ["signs", "ring"] (defScope sWorth) := ⟨rfl, rfl, rfl, by decide +kernel, rfl, by decide +kernel, by decide +kernel⟩
def spWorth (K : PySem.W.Frag) : Sp := fun vs H Q _ => ∃ (a p : Addr) (n : Nat) (s : List (List Int)) (r : List Nat), vs = [.ref a, .ref p] ∧ TR K H a s ∧ Sq n s ∧ All B s ∧ SqT K H p (natsV r) ∧ r ≠ [] ∧ r.length ≤ 100 ∧ (∀ k ∈ r, k < n) ∧
  ∀ H', Ext H H' → Q (.int (worth (cell s) r)) H'
theorem ok_worth (T : Tx K mg) : FnOk P w K mg base CX0 1 T.dWorth.f T.dWorth.fd ["signs", "ring"] (spWorth K) := by
  refine T.dWorth.F.ok scWorth (fun vs H Q E h => ?_) (fun cdv A outer s H vs Q E hr h => ?_)
  · obtain ⟨a, p, n, s, r, rfl, _⟩ := h
    rfl
  obtain ⟨a, p, n, s, r, rfl, hT, hq, hA, hp, hne, hlen, hlt, q⟩ := h
  refine ⟨_, pss_cons (ps_set (i := 2) scWorth.nd rfl (Or.inl rfl) pe_int)
    (pss_cons (ps_for PassesOwn.never rfl (pi_zipM (by rfl) T.B.zip (pa_cons (pv 1) (pa_cons (pe_lst (StX.pa_star (pe_slice sl_tupA (pv 1) (po_some pe_int) po_none) (pa_cons (pe_ix ix_tup (pv 1) pe_int (fun _ _ => rfl)) pa_nil))) pa_nil)))
        (pg_tup rfl (pgs_cons (pg_name (i := 3) scWorth.nd rfl (.inl rfl)) (pgs_cons (pg_name (i := 4) scWorth.nd rfl (.inl rfl)) pgs_nil)))
        (pss_one (ps_aug (i := 2) scWorth.nd rfl (Or.inl rfl) (pe_ix ix_tup (pe_ix ix_tup (pv 0) (pv 3) (fun _ _ => rfl)) (pv 4) (fun _ _ => rfl)) iop_mul)))
    (pss_one (ps_ret (pe_ifExp (pt_cmpR op_eq (pe_op op_mod (pe_callB call_len_seq (by rfl) T.B.len PySem.boot_len (pa_cons (pv 1) pa_nil)) pe_int) pe_int (nomark _)) (pe_un un_neg (pv 2)) (pv 2))))), ?_⟩
  obtain ⟨r0, rt, rfl⟩ : ∃ r0 rt, r = r0 :: rt := by
    cases r with
    | nil => exact absurd rfl hne
    | cons r0 rt => exact ⟨r0, rt, rfl⟩
  have hne2 : natsV (r0 :: rt) ≠ [] := fun z => by cases z
  refine ⟨.ref p, rfl, .ref p, rfl, _, rfl, p, natsV (r0 :: rt), rfl, hp, fun hw => absurd hw (not_whole hne2), fun _ t ht => ?_⟩
  rw [cut_one]
  have e1 : Ext H (upd H t (.tup ((natsV (r0 :: rt)).drop 1))) := ext_new ht
  refine ⟨t, _, rfl, .inl (SqT.of upd_same), .ref p, rfl, p, _, 0, _, rfl, rfl, hp.ext e1, atI_nat (j := 0) rfl, ?_, fun l hl => ?_⟩
  · show ((natsV (r0 :: rt)).drop 1 ++ [V.int (r0 : Int)]).length ≤ sizeLine
    rw [nexts_V, List.length_map, nexts_len]
    exact Nat.le_of_lt (small1000 (by omega))
  show ∃ a b xs ys, _
  rw [show (natsV (r0 :: rt)).drop 1 ++ [natV r0] = natsV (nexts (r0 :: rt)) from nexts_V]
  have e2 := e1.trans (ext_new (o := .lst (natsV (nexts (r0 :: rt)))) hl)
  have hl2 : SqL K (upd (upd H t (.tup ((natsV (r0 :: rt)).drop 1))) l (.lst (natsV (nexts (r0 :: rt))))) l (natsV (nexts (r0 :: rt))) := SqL.of upd_same
  generalize upd (upd H t (.tup ((natsV (r0 :: rt)).drop 1))) l (.lst (natsV (nexts (r0 :: rt)))) = H1 at e2 hl2 ⊢
  generalize hr' : r0 :: rt = r at *
  have hB : ∀ i, B (prodTo (fun i => cell s (r.getD i 0) ((nexts r).getD i 0)) i) := prodTo_B fun i => cell_B hA _ _
  have ln : (nexts r).length = r.length := by rw [← hr']; exact nexts_len
  refine ⟨p, l, _, _, rfl, hp.ext e2, hl2, for_zipM (K := K) (a := p) (b := l) (xs := natsV r) (ys := natsV (nexts r)) (by rw [List.length_map, List.length_map, ln])
    (fun i σ H' => ∃ x3 x4, σ = [some (.ref a), some (.ref p), some (.int (prodTo (fun i => cell s (r.getD i 0) ((nexts r).getD i 0)) i)), x3, x4] ∧ Ext H1 H') ⟨none, none, rfl, Ext.rfl'⟩ ?_ ?_ ?_⟩
  · rintro i σ H' _ ⟨x3, x4, rfl, e3⟩
    exact ⟨hp.ext (e2.trans e3), hl2.ext e3⟩
  · rintro i x y σ H' T' hx hy ⟨x3, x4, rfl, e3⟩ nT
    obtain ⟨k, rfl, hk⟩ := get_nats hx
    obtain ⟨j, rfl, hj⟩ := get_nats hy
    have hk2 : k < n := hlt k (List.mem_of_getElem? hk)
    have hj2 : j < n := hlt j (by
      have z := List.mem_of_getElem? hj
      rw [← hr'] at z ⊢
      exact nexts_mem z)
    obtain ⟨row, v, g1, g2, g3, g4⟩ := hq.at hk2 hj2
    obtain ⟨as, hS, hE⟩ := hT
    obtain ⟨ra, g5, g6⟩ := hE.get g1
    have e4 : Ext H (upd H' T' (.tup [.int (k : Int), .int (j : Int)])) := (e2.trans e3).trans (ext_new nT)
    refine ⟨T', _, rfl, SqT.of upd_same, rfl, _, _, rfl, _, _, rfl, rfl, ?_⟩
    refine ⟨_, rfl, .ref a, rfl, .int k, rfl, a, _, _, _, rfl, rfl, hS.ext e4, atI_nat (ref_at g5), .int j, rfl, ra, _, _, _, rfl, rfl, g6.ext e4, atI_nat (int_at g2), _, _, rfl, rfl, ?_, ?_⟩
    · obtain ⟨b1, b2⟩ := hB i
      exact .inl ⟨by omega, by omega⟩
    · refine ⟨some (.int (k : Int)), some (.int (j : Int)), ?_, e3.trans (ext_new nT)⟩
      rw [← g4]
      show _ = [_, _, some (V.int (_ * cell s (r.getD i 0) ((nexts r).getD i 0))), _, _]
      rw [getD_at hk, getD_at hj]
      rfl
  · rintro σ H' ⟨x3, x4, rfl, e3⟩
    rw [List.length_map]
    refine ⟨.ref p, rfl, p, _, rfl, .inr (hp.ext (e2.trans e3)), _, _, rfl, rfl, (by show (0 : Int) < 2; decide), rfl, _, rfl, ?_⟩
    have q' := q H' (e2.trans e3)
    unfold worth at q'
    have ec : ((((natsV r).length : Nat) : Int) % 2 = 0) ↔ r.length % 2 = 0 := by rw [List.length_map]; omega
    by_cases hm : r.length % 2 = 0
    · rw [if_pos hm] at q'
      exact iteTT (decide_eq_true (congrArg V.int (ec.mpr hm))) ⟨_, rfl, _, rfl, q'⟩
    · rw [if_neg hm] at q'
      exact iteFF (decide_eq_false fun z => hm (ec.mp (V.int.inj z))) ⟨_, rfl, q'⟩
/-! ### is_bad -/
theorem scIsBad : FnScope ["signs", "ring", "found"] ["signs", "ring"] (defScope sIsBad) := ⟨rfl, rfl, rfl, by decide +kernel, rfl, by decide +kernel, by decide +kernel⟩
def spIsBad (K : PySem.W.Frag) : Sp := fun vs H Q _ => ∃ (a p : Addr) (n : Nat) (s : List (List Int)) (r : List Nat), vs = [.ref a, .ref p] ∧ TR K H a s ∧ Sq n s ∧ All B s ∧ SqT K H p (natsV r) ∧ r ≠ [] ∧ r.length ≤ 100 ∧ (∀ k ∈ r, k < n) ∧
  ∀ H', Ext H H' → Q (.bl (isBad (cell s) r)) H'
theorem ok_isBad (T : Tx K mg) : FnOk P w K mg base CX0 2 T.dIsBad.f T.dIsBad.fd ["signs", "ring"] (spIsBad K) := by
  have GW : FnOk P w K mg base CX0 1 T.dWorth.f T.dWorth.fd ["signs", "ring"] (spWorth K) := ok_worth T
  refine T.dIsBad.F.ok scIsBad (fun vs H Q E h => ?_) (fun cdv A outer s H vs Q E hr h => ?_)
  · obtain ⟨a, p, n, s, r, rfl, _⟩ := h
    rfl
  obtain ⟨a, p, n, s, r, rfl, hT, hq, hA, hp, hne, hlen, hlt, q⟩ := h
  refine ⟨_, pss_cons (ps_set (i := 2) scIsBad.nd rfl (Or.inl rfl) (pe_call GW hr (by rfl) T.dWorth.g T.dWorth.F.kp T.dWorth.b .nil pass0 (pa_cons (pv 0) (pa_cons (pv 1) pa_nil))))
    (pss_one (ps_ret (pe_ifExp (pt_cmpR op_eq (pe_callB call_len_seq (by rfl) T.B.len PySem.boot_len (pa_cons (pv 1) pa_nil)) pe_int (nomark _)) (pe_cmpR op_le (pv 2) pe_int (nomark _)) (pe_cmpR op_lt (pv 2) pe_int (nomark _))))), ?_⟩
  refine ⟨.ref a, rfl, .ref p, rfl, a, p, n, s, r, rfl, hT, hq, hA, hp, hne, hlen, hlt, fun H' e => ?_⟩
  have q' := q H' e
  unfold isBad at q'
  refine ⟨.ref p, rfl, p, _, rfl, .inr (hp.ext e), rfl, _, rfl, ?_⟩
  have ec : ((((natsV r).length : Nat) : Int) = 1) ↔ r.length = 1 := by rw [List.length_map]; omega
  by_cases hm : r.length = 1
  · rw [if_pos hm] at q'
    exact iteTT (decide_eq_true (congrArg V.int (ec.mpr hm))) ⟨_, rfl, _, _, rfl, rfl, q'⟩
  · rw [if_neg hm] at q'
    exact iteFF (decide_eq_false fun z => hm (ec.mp (V.int.inj z))) ⟨_, rfl, _, _, rfl, rfl, q'⟩
/-! ### first_ring -/
def FR (K : PySem.W.Frag) (n : Nat) (s : List (List Int)) (v : V) (H : Hp) : Prop := match (rings n).find? (isBad (cell s)) with
  | none => v = .non
  | some r => ∃ p, v = .ref p ∧ SqT K H p (natsV r)
theorem rings_shape : ∀ n, n ≤ 4 → ∀ r ∈ rings n, r ≠ [] ∧ r.length ≤ 100 ∧ ∀ k ∈ r, k < n := by decide +kernel
theorem scFirst : FnScope ["signs", "ring"] ["signs"] (defScope sFirst) := ⟨rfl, rfl, rfl, by decide +kernel, rfl, by decide +kernel, by decide +kernel⟩
def spFirst (K : PySem.W.Frag) : Sp := fun vs H Q _ => ∃ (a : Addr) (n : Nat) (s : List (List Int)), vs = [.ref a] ∧ TR K H a s ∧ Sq n s ∧ 1 ≤ n ∧ n ≤ 4 ∧ All B s ∧ ∀ H' v, Ext H H' → FR K n s v H' → Q v H'
theorem ok_first (T : Tx K mg) : FnOk P w K mg base CX0 6 T.dFirst.f T.dFirst.fd ["signs"] (spFirst K) := by
  have GR : FnOk P w K mg base CX0 5 T.dRings.f T.dRings.fd ["many"] (spRings K) := ok_rings T
  have GB : FnOk P w K mg base CX0 2 T.dIsBad.f T.dIsBad.fd ["signs", "ring"] (spIsBad K) := ok_isBad T
  refine T.dFirst.F.ok scFirst (fun vs H Q E h => ?_) (fun cdv A outer s H vs Q E hr h => ?_)
  · obtain ⟨a, n, s, rfl, _⟩ := h
    rfl
  obtain ⟨a, n, s, rfl, hT, hq, n1, n4, hA, q⟩ := h
  refine ⟨_, pss_cons (ps_for PassesOwn.never rfl (pi_list (pe_call GR hr (by rfl) T.dRings.g T.dRings.F.kp T.dRings.b .nil pass0 (pa_cons (pe_callB call_len_seq (by rfl) T.B.len PySem.boot_len (pa_cons (pv 0) pa_nil)) pa_nil))) (pg_name (i := 1) scFirst.nd rfl (.inl rfl))
      (pss_one (ps_if (pt_val (pe_call GB (hr.mono (by decide)) (by rfl) T.dIsBad.g T.dIsBad.F.kp T.dIsBad.b .nil pass0 (pa_cons (pv 0) (pa_cons (pv 1) pa_nil)))) (pss_one (ps_ret (pv 1))) pss_nil)))
    (pss_one (ps_ret pe_non)), ?_⟩
  obtain ⟨as, hS, hE⟩ := id hT
  have la : (refsV as).length = n := by rw [List.length_map, hE.1, hq.1]
  refine ⟨.ref a, rfl, a, _, rfl, .inr hS, n, by rw [la]; rfl, n1, n4, fun H1 p ps e1 hp hps => ⟨p, rfl, ⟨_, hp⟩, ?_⟩⟩
  refine for_list (K := K) (a := p) (xs := refsV ps) (fun i σ H' => ∃ x1, σ = [some (.ref a), x1] ∧ Ext H1 H' ∧ ((rings n).take i).find? (isBad (cell s)) = none) ⟨none, rfl, Ext.rfl', rfl⟩ ?_ ?_ ?_
  · rintro i σ H' _ ⟨x1, rfl, e2, _⟩
    exact hp.ext e2
  · rintro i x σ H' hx ⟨x1, rfl, e2, hf⟩
    obtain ⟨r1, rfl, hr1⟩ := get_refs hx
    obtain ⟨r, hr2, hr3⟩ := hps.get' hr1
    obtain ⟨g1, g2, g3⟩ := rings_shape n n4 r (List.mem_of_getElem? hr2)
    have e3 : Ext H H' := e1.trans e2
    refine ⟨.ref a, rfl, .ref r1, rfl, a, r1, n, s, r, rfl, hT.ext e3, hq, hA, hr3.ext e2, g1, g2, g3, fun H2 e4 => ⟨_, rfl, ?_⟩⟩
    by_cases hb : isBad (cell s) r = true
    · refine iteTT hb ⟨_, rfl, q H2 _ (e3.trans e4) ?_⟩
      have hi : i < (rings n).length := (List.getElem?_eq_some_iff.mp hr2).1
      have ed : rings n = (rings n).take i ++ (r :: (rings n).drop (i + 1)) := by
        rw [← (List.getElem?_eq_some_iff.mp hr2).2, ← List.drop_eq_getElem_cons hi, List.take_append_drop]
      have ef : (rings n).find? (isBad (cell s)) = some r := by
        rw [ed, List.find?_append, hf, List.find?_cons_of_pos hb]
        rfl
      unfold FR
      rw [ef]
      exact ⟨r1, rfl, hr3.ext (e2.trans e4)⟩
    · refine iteFF (by simpa using hb) ⟨_, rfl, e2.trans e4, ?_⟩
      rw [List.take_add_one, hr2, List.find?_append, hf]
      show (none.or ([r].find? (isBad (cell s)))) = none
      rw [List.find?_cons_of_neg hb]
      rfl
  · rintro σ H' ⟨x1, rfl, e2, hf⟩
    refine q H' _ (e1.trans e2) ?_
    rw [List.length_map, hps.1, List.take_length] at hf
    unfold FR
    rw [hf]
/-! ### always_single -/
theorem scAlways : FnScope ["signs"] ["signs"] (defScope sAlways) := ⟨rfl, rfl, rfl, by decide +kernel, rfl, by decide +kernel, by decide +kernel⟩
def spAlways (K : PySem.W.Frag) : Sp := fun vs H Q _ => ∃ (a : Addr) (n : Nat) (s : List (List Int)), vs = [.ref a] ∧ TR K H a s ∧ Sq n s ∧ 1 ≤ n ∧ n ≤ 4 ∧ All B s ∧ ∀ H', Ext H H' → Q (.bl ((rings n).find? (isBad (cell s))).isNone) H'
theorem ok_always (T : Tx K mg) : FnOk P w K mg base CX0 7 T.dAlways.f T.dAlways.fd ["signs"] (spAlways K) := by
  have GC : FnOk P w K mg base CX0 4 T.dCheck.f T.dCheck.fd ["value"] (spCheck K) := ok_check T
  have GF : FnOk P w K mg base CX0 6 T.dFirst.f T.dFirst.fd ["signs"] (spFirst K) := ok_first T
  refine T.dAlways.F.ok scAlways (fun vs H Q E h => ?_) (fun cdv A outer s H vs Q E hr h => ?_)
  · obtain ⟨a, n, s, rfl, _⟩ := h
    rfl
  obtain ⟨a, n, s, rfl, hT, hq, n1, n4, hA, q⟩ := h
  refine ⟨_, pss_cons (ps_expr (pe_call GC (hr.mono (by decide)) (by rfl) T.dCheck.g T.dCheck.F.kp T.dCheck.b .nil pass0 (pa_cons (pv 0) pa_nil)))
    (pss_one (ps_ret (pe_cmp (pc_isN (pe_call GF hr (by rfl) T.dFirst.g T.dFirst.F.kp T.dFirst.b .nil pass0 (pa_cons (pv 0) pa_nil))) rfl))), ?_⟩
  refine ⟨.ref a, rfl, a, n, s, rfl, hT, hq, n1, by omega, hA, fun H1 e1 => ?_⟩
  refine ⟨.ref a, rfl, a, n, s, rfl, hT.ext e1, hq, n1, n4, hA, fun H2 v e2 hv => ?_⟩
  have q' := q H2 (e1.trans e2)
  unfold FR at hv
  show Q (.bl (decide (v = .non))) H2
  cases e : (rings n).find? (isBad (cell s)) with
  | none =>
    rw [e] at hv q'
    subst hv
    exact q'
  | some r =>
    rw [e] at hv q'
    obtain ⟨p, rfl, _⟩ := hv
    exact q'
end
end Ow
set_option Elab.async false
set_option linter.all false
set_option maxRecDepth 100000
namespace Ow
open PySem PySem.Spec PyProof.Rows L2
def mat (n : Nat) (f : Nat → Nat → Int) : List (List Int) := (List.range n).map fun i => (List.range n).map (f i)
theorem mat_row {n : Nat} {f : Nat → Nat → Int} {i : Nat} {r : List Int} (h : (mat n f)[i]? = some r) : i < n ∧ r = (List.range n).map (f i) := by
  unfold mat at h
  rw [List.getElem?_map] at h
  cases e : (List.range n)[i]? with
  | none =>
    rw [e] at h
    cases h
  | some k =>
    rw [e] at h
    obtain ⟨h1, h2⟩ := List.getElem?_eq_some_iff.mp e
    rw [List.getElem_range] at h2
    subst h2
    rw [List.length_range] at h1
    exact ⟨h1, (Option.some.inj h).symm⟩
theorem row_at {n : Nat} {f : Nat → Int} {j : Nat} {x : Int} (h : ((List.range n).map f)[j]? = some x) : j < n ∧ x = f j := by
  rw [List.getElem?_map] at h
  cases e : (List.range n)[j]? with
  | none =>
    rw [e] at h
    cases h
  | some k =>
    rw [e] at h
    obtain ⟨h1, h2⟩ := List.getElem?_eq_some_iff.mp e
    rw [List.getElem_range] at h2
    subst h2
    rw [List.length_range] at h1
    exact ⟨h1, (Option.some.inj h).symm⟩
theorem mat_sq (n : Nat) (f : Nat → Nat → Int) : Sq n (mat n f) := by
  refine ⟨by unfold mat; rw [List.length_map, List.length_range], fun i r h => ?_⟩
  rw [(mat_row h).2, List.length_map, List.length_range]
theorem mat_all {n : Nat} {f : Nat → Nat → Int} {p : Int → Prop} (h : ∀ i j, i < n → j < n → p (f i j)) : All p (mat n f) := fun i r j x hi hj => by
  obtain ⟨h1, rfl⟩ := mat_row hi
  obtain ⟨h2, rfl⟩ := row_at hj
  exact h i j h1 h2
theorem mat_cell {n : Nat} {f : Nat → Nat → Int} {i j : Nat} (hi : i < n) (hj : j < n) : cell (mat n f) i j = f i j := by
  refine cell_at (r := (List.range n).map (f i)) ?_ ?_
  · unfold mat
    rw [List.getElem?_map, List.getElem?_range hi]
    rfl
  · rw [List.getElem?_map, List.getElem?_range hj]
    rfl
def fillM (n : Nat) (s : List (List Int)) (r : List Nat) : List (List Int) := mat n (fillF (cell s) r)
def kvsR (r : List Nat) : List (Key × V) := (r.zip (nexts r)).map fun q => (Sum.inl (q.1 : Int), natV q.2)
theorem kvs_keys {r0 : Nat} {rt : List Nat} : ((kvsR (r0 :: rt)).map fun q => kV q.1) = natsV (r0 :: rt) := by
  unfold kvsR
  rw [List.map_map]
  show ((r0 :: rt).zip (nexts (r0 :: rt))).map (natV ∘ Prod.fst) = _
  rw [← List.map_map, List.map_fst_zip (by rw [nexts_len]; exact Nat.le_refl _)]
theorem kvs_vals {r0 : Nat} {rt : List Nat} : ((kvsR (r0 :: rt)).map fun q => q.2) = natsV (nexts (r0 :: rt)) := by
  unfold kvsR
  rw [List.map_map]
  show ((r0 :: rt).zip (nexts (r0 :: rt))).map (natV ∘ Prod.snd) = _
  rw [← List.map_map, List.map_snd_zip (by rw [nexts_len]; exact Nat.le_refl _)]
theorem behind_at : ∀ n, n ≤ 4 → ∀ r ∈ rings n, ∀ i : Nat, i ≤ 4 → valV (mergeK [] (kvsR r)) (Sum.inl (i : Int)) = (behind r i).map natV := by decide +kernel
section
variable {P : Program} {w : World} {K : PySem.W.Frag} {mg : Str → Option Value} {base : Heap}
theorem scBadT : FnScope ["signs", "ring", "behind", "rows", "place", "row", "spot", "sign"] ["signs"] (defScope sBadT) := ⟨rfl, rfl, rfl, by decide +kernel, rfl, by decide +kernel, by decide +kernel⟩
def spBadT (K : PySem.W.Frag) (C : Addr) : Sp := fun vs H Q _ => ∃ (a : Addr) (n : Nat) (s : List (List Int)), vs = [.ref a] ∧ TR K H a s ∧ Sq n s ∧ 1 ≤ n ∧ n ≤ 4 ∧ All B s ∧
  ((rings n).find? (isBad (cell s)) = none → ∀ H', Ext H H' → Q .non H') ∧ ∀ r, (rings n).find? (isBad (cell s)) = some r → ∀ H' t dx b, Ext H H' → H' t = some (.ins C dx [("rows", .ref b)]) → TR K H' b (fillM n s r) → Q (.ref t) H'
theorem ok_badT (T : Tx K mg) : FnOk P w K mg base CX0 7 T.dBadT.f T.dBadT.fd ["signs"] (spBadT K T.tC) := by
  have GC : FnOk P w K mg base CX0 4 T.dCheck.f T.dCheck.fd ["value"] (spCheck K) := ok_check T
  have GF : FnOk P w K mg base CX0 6 T.dFirst.f T.dFirst.fd ["signs"] (spFirst K) := ok_first T
  have GI : FnOk P w K mg base CX0 4 T.fI T.fdI ["self", "rows"] (spTabI K T.tC) := ok_tabI T
  obtain ⟨tg, cg⟩ := T.C.great
  refine T.dBadT.F.ok scBadT (fun vs H Q E h => ?_) (fun cdv A outer s H vs Q E hr h => ?_)
  · obtain ⟨a, n, s, rfl, _⟩ := h
    rfl
  obtain ⟨a, n, s, rfl, hT, hq, n1, n4, hA, q0, q1⟩ := h
  refine ⟨_, pss_cons (ps_expr (pe_call GC (hr.mono (by decide)) (by rfl) T.dCheck.g T.dCheck.F.kp T.dCheck.b .nil pass0 (pa_cons (pv 0) pa_nil)))
    (pss_cons (ps_set (i := 1) scBadT.nd rfl (Or.inl rfl) (pe_call GF hr (by rfl) T.dFirst.g T.dFirst.F.kp T.dFirst.b .nil pass0 (pa_cons (pv 0) pa_nil)))
    (pss_cons (ps_if (pt_cmpR op_isN (pv 1) pe_non (nomark _)) (pss_one (ps_ret pe_non)) pss_nil)
    (pss_cons (ps_set (i := 2) scBadT.nd rfl (Or.inr rfl) (pe_dictZip rfl (by rfl) T.B.dict (by rfl) T.B.zip (pa_cons (pv 1) (pa_cons (pe_lst (StX.pa_star (pe_slice sl_tupA (pv 1) (po_some pe_int) po_none) (pa_cons (pe_ix ix_tup (pv 1) pe_int (fun _ _ => rfl)) pa_nil))) pa_nil))))
    (pss_cons (ps_set (i := 3) scBadT.nd rfl (Or.inl rfl) (pe_lst pa_nil))
    (pss_cons (ps_for PassesOwn.never rfl (pi_enumT (by rfl) T.B.enum (pa_cons (pv 0) pa_nil)) (pg_tup rfl (pgs_cons (pg_name (i := 4) scBadT.nd rfl (.inr rfl)) (pgs_cons (pg_name (i := 5) scBadT.nd rfl (.inl rfl)) pgs_nil)))
      (pss_one (ps_expr (pe_bm PySem.F.plainAttrs_list PySem.F.slot_list_append PySem.F.type_list_append mt_append (pv 3) (pa_cons (pe_tupleOf (by rfl) T.B.tup
        (pe_lc (own := [("spot", 6), ("sign", 7)]) (g := gTup K 2 (gCons (gName 6) (gCons (gName 7) gNil))) (tt := tYes) rfl scBadT.nd (pi_enumT (by rfl) T.B.enum (pa_cons (pv 5) pa_nil)) (blkOk_by (N := ["signs", "ring", "behind", "rows", "place", "row", "spot", "sign"]) (sc := defScope sBadT) (by decide +kernel))
          (fun _ _ _ _ _ => pg_tup rfl (pgs_cons (pg_name (i := 6) scBadT.nd rfl (.inl rfl)) (pgs_cons (pg_name (i := 7) scBadT.nd rfl (.inl rfl)) pgs_nil))) (fun _ _ _ _ _ => pts_nil)
          (fun _ _ _ _ _ => pe_op op_mul (pv 7) (pe_ifExp (pt_cmpR op_eq (pe_dget1 (hu_of hr) (pv 2) (pv 4) ⟨rfl, rfl, rfl, rfl⟩) (pv 6) (nomark _)) (pe_glob (v := .int 1000) (by rfl) cg ⟨_, rfl⟩) pe_int)))) pa_nil)))))
    (pss_one (ps_ret (pe_make T.MT GI (hr.mono (by decide)) (by rfl) T.gT T.bI .nil pass0 (pa_cons (pe_tupleOf (by rfl) T.B.tup (pv 3)) pa_nil))))))))), ?_⟩
  refine ⟨.ref a, rfl, a, n, s, rfl, hT, hq, n1, by omega, hA, fun H1 e1 => ?_⟩
  refine ⟨.ref a, rfl, a, n, s, rfl, hT.ext e1, hq, n1, n4, hA, fun H2 v e2 hv => ?_⟩
  refine ⟨v, rfl, rfl, _, rfl, ?_⟩
  unfold FR at hv
  cases hfr : (rings n).find? (isBad (cell s)) with
  | none =>
    rw [hfr] at hv
    subst hv
    exact iteTT rfl (q0 hfr H2 (e1.trans e2))
  | some r =>
    rw [hfr] at hv
    obtain ⟨p, rfl, hp⟩ := hv
    refine iteFF rfl ?_
    have hmem : r ∈ rings n := List.mem_of_find?_eq_some hfr
    have hbh := behind_at n n4 r hmem
    obtain ⟨hne, hlen, hlt⟩ := rings_shape n n4 r hmem
    obtain ⟨r0, rt, hr0⟩ : ∃ r0 rt, r = r0 :: rt := by
      cases r with
      | nil => exact absurd rfl hne
      | cons r0 rt => exact ⟨r0, rt, rfl⟩
    have hne2 : natsV r ≠ [] := fun z => by rw [hr0] at z; cases z
    have e3 : Ext H H2 := e1.trans e2
    refine ⟨.ref p, rfl, .ref p, rfl, _, rfl, p, natsV r, rfl, hp, fun hw => absurd hw (not_whole hne2), fun _ t ht => ?_⟩
    rw [cut_one]
    have e4 : Ext H2 (upd H2 t (.tup ((natsV r).drop 1))) := ext_new ht
    have en : (natsV r).drop 1 ++ [natV r0] = natsV (nexts r) := by
      rw [hr0]
      exact nexts_V
    refine ⟨t, _, rfl, .inl (SqT.of upd_same), .ref p, rfl, p, _, 0, natV r0, rfl, rfl, hp.ext e4, atI_nat (j := 0) (by rw [hr0]; rfl), ?_, fun l hl => ?_⟩
    · show ((natsV r).drop 1 ++ [natV r0]).length ≤ sizeLine
      rw [en, List.length_map, hr0, nexts_len, ← hr0]
      exact Nat.le_of_lt (small1000 (by omega))
    show ∃ a b kvs, _
    rw [en]
    have e5 : Ext H2 (upd (upd H2 t (.tup ((natsV r).drop 1))) l (.lst (natsV (nexts r)))) := e4.trans (ext_new hl)
    have hl2 : SqL K (upd (upd H2 t (.tup ((natsV r).drop 1))) l (.lst (natsV (nexts r)))) l (natsV (nexts r)) := SqL.of upd_same
    generalize upd (upd H2 t (.tup ((natsV r).drop 1))) l (.lst (natsV (nexts r))) = H3 at e5 hl2 ⊢
    refine ⟨p, l, kvsR r, rfl, by rw [hr0, kvs_keys, ← hr0]; exact hp.ext e5, by rw [hr0, kvs_vals, ← hr0]; exact hl2, fun d hd => ?_⟩
    have e6 : Ext H2 (upd H3 d (.dK (mergeK [] (kvsR r)))) := e5.trans (ext_new hd)
    have hd2 : upd H3 d (.dK (mergeK [] (kvsR r))) d = some (.dK (mergeK [] (kvsR r))) := upd_same
    generalize upd H3 d (.dK (mergeK [] (kvsR r))) = H4 at e6 hd2 ⊢
    refine ⟨by decide, fun pr hpr => ?_⟩
    obtain ⟨as, hS, hE⟩ := id (hT.ext (e3.trans e6))
    have la : (refsV as).length = n := by rw [List.length_map, hE.1, hq.1]
    have ex4 : Ext H4 (upd H4 pr (.lst [])) := ext_new hpr
    refine ⟨.ref a, rfl, a, refsV as, rfl, hS.ext ex4, for_enumT (K := K) (a := a) (xs := refsV as) (fun i σ H' => ∃ x4 x5, σ = [some (.ref a), some (.ref p), some (.ref d), some (.ref pr), x4, x5, none, none] ∧ Ext H4 H' ∧ ∃ acc : List Addr, H' pr = some (.lst (refsV acc)) ∧
      Each (fun p r => SqT K H' p (intsV r)) acc ((List.range i).map fun i => (List.range n).map (fillF (cell s) r i)) ∧ acc.length = i) ⟨none, none, rfl, ex4, [], upd_same, Each.nil, rfl⟩ ?_ ?_ ?_⟩
    · rintro i σ H' _ ⟨x4, x5, rfl, z, _⟩
      exact hS.ext z
    · rintro i x σ H5 T1 hx ⟨x4, x5, rfl, e7, acc, hacc, hEa, hla⟩ nT
      obtain ⟨ra, rfl, hra⟩ := get_refs hx
      obtain ⟨row, hrow, hra2⟩ := hE.get' hra
      have hin : i < n := by
        have z := (List.getElem?_eq_some_iff.mp hx).1
        rw [la] at z
        exact z
      have lr := hq.2 i row hrow
      have e8 : Ext H5 (upd H5 T1 (.tup [.int (i : Nat), .ref ra])) := ext_new nT
      refine ⟨T1, _, rfl, SqT.of upd_same, rfl, _, _, rfl, _, _, rfl, rfl, ?_⟩
      have hacc2 : upd H5 T1 (.tup [.int (i : Nat), .ref ra]) pr = some (.lst (refsV acc)) := e8 _ _ hacc
      have e9 : Ext H4 (upd H5 T1 (.tup [.int (i : Nat), .ref ra])) := e7.trans e8
      have hEb : Each (fun p r => SqT K (upd H5 T1 (.tup [.int (i : Nat), .ref ra])) p (intsV r)) acc ((List.range i).map fun i => (List.range n).map (fillF (cell s) r i)) := hEa.mono fun _ _ z => z.ext e8
      generalize upd H5 T1 (.tup [.int (i : Nat), .ref ra]) = H6 at hacc2 e9 hEb ⊢
      have hra6 : SqT K H6 ra (intsV row) := hra2.ext e9
      refine ⟨.ref pr, rfl, .inl ⟨rfl, _, SqL.of hacc2⟩, .ref ra, rfl, ra, _, rfl, hra6, fun D hD => ?_⟩
      refine lc_enumT (K := K) (a := ra) (xs := intsV row) (fun j H' => Ext H6 H' ∧ H' D = some (.lst (intsV ((List.range j).map (fillF (cell s) r i))))) ⟨ext_new hD, upd_same⟩ (fun j H' _ z => hra6.ext z.1) ?_ ?_
      · rintro j y H7 T2 hy ⟨e10, hDj⟩ nT2
        obtain ⟨v, rfl, hv⟩ := get_ints hy
        have hjn : j < n := by
          have z := (List.getElem?_eq_some_iff.mp hv).1
          rw [lr] at z
          exact z
        have hvB : B v := hA i row j v hrow hv
        have ec : cell s i j = v := cell_at hrow hv
        have e11 : Ext H7 (upd H7 T2 (.tup [.int (j : Nat), .int v])) := ext_new nT2
        have hd7 : upd H7 T2 (.tup [.int (j : Nat), .int v]) d = some (.dK (mergeK [] (kvsR r))) := e11 _ _ (e10 _ _ (e9 _ _ hd2))
        have hD7 := e11 _ _ hDj
        refine ⟨T2, _, rfl, SqT.of upd_same, rfl, _, _, rfl, _, _, rfl, rfl, rfl, ?_⟩
        have hfin : ∀ c : Int, c = (if behind r i = some j then 1000 else 1) → ∃ acc, upd H7 T2 (.tup [.int (j : Nat), .int v]) D = some (.lst acc) ∧ acc.length < sizeLine ∧ Ext H6 (upd (upd H7 T2 (.tup [.int (j : Nat), .int v])) D (.lst (acc ++ [.int (v * c)]))) ∧
            upd (upd H7 T2 (.tup [.int (j : Nat), .int v])) D (.lst (acc ++ [.int (v * c)])) D = some (.lst (intsV ((List.range (j + 1)).map (fillF (cell s) r i)))) := fun c hc => by
          refine ⟨_, hD7, ?_, ext_at hD (e10.trans e11), ?_⟩
          · rw [List.length_map, List.length_map, List.length_range]
            exact small1000 (by omega)
          · rw [upd_same, List.range_succ, List.map_append, intsV, intsV, List.map_append]
            show _ = some (HO.lst (_ ++ [V.int (fillF (cell s) r i j)]))
            unfold fillF
            rw [ec, ← hc]
        refine ⟨.int v, rfl, .ref d, rfl, d, rfl, .inl ⟨_, .inl hd7⟩, .int (i : Int), rfl, _, DGet.k (k := Sum.inl (i : Int)) hd7, .int (j : Int), rfl, ?_⟩
        rw [hbh i (by omega)]
        have b64 : (-(2 ^ 64) < v ∧ v < 2 ^ 64) := ⟨by have := hvB.1; omega, by have := hvB.2; omega⟩
        cases hbi : behind r i with
        | none =>
          refine ⟨rfl, _, rfl, iteFF (decide_eq_false fun z => by cases z) ?_⟩
          exact ⟨_, _, rfl, rfl, .inl b64, hfin 1 (by rw [hbi]; rfl)⟩
        | some b =>
          refine ⟨rfl, _, rfl, ?_⟩
          by_cases hbj : b = j
          · subst hbj
            refine iteTT (decide_eq_true rfl) ?_
            exact ⟨_, _, rfl, rfl, .inl b64, hfin 1000 (by rw [hbi, if_pos rfl])⟩
          · refine iteFF (decide_eq_false fun z => hbj (Int.ofNat.inj (V.int.inj z))) ?_
            exact ⟨_, _, rfl, rfl, .inl b64, hfin 1 (by rw [hbi, if_neg fun z => hbj (Option.some.inj z)])⟩
      · rintro H7 ⟨e10, hDn⟩
        rw [List.length_map, lr] at hDn
        refine .inl ⟨D, _, rfl, SqL.of hDn, fun t2 ht2 => ?_⟩
        have hacc7 : upd H7 t2 (.tup (intsV ((List.range n).map (fillF (cell s) r i)))) pr = some (.lst (refsV acc)) := (ext_new ht2) _ _ (e10 _ _ hacc2)
        have e11 : Ext H7 (upd H7 t2 (.tup (intsV ((List.range n).map (fillF (cell s) r i))))) := ext_new ht2
        refine ⟨pr, _, _, rfl, rfl, hacc7, ?_, ?_⟩
        · rw [List.length_map, hla]
          exact small1000 (by omega)
        obtain ⟨w1, w2, w3⟩ := push_ok (F := fun H a b => SqT K H a (intsV b)) (fun o a b z => sqT_at hacc7 z) hpr ((e9.trans e10).trans e11) (hEb.mono fun a b z => z.ext (e10.trans e11)) (r := (List.range n).map (fillF (cell s) r i)) (SqT.of upd_same)
        refine ⟨_, _, rfl, w1, acc ++ [t2], w2, ?_, by rw [List.length_append, hla]; rfl⟩
        rw [List.range_succ, List.map_append]
        exact w3
    · rintro σ H5 ⟨x4, x5, rfl, e7, acc, hacc, hEa, hla⟩
      rw [la] at hEa
      refine ⟨.ref pr, rfl, .inl ⟨pr, _, rfl, SqL.of hacc, fun t2 ht2 x dx hx hdx hne3 => ?_⟩⟩
      have e8 : Ext H5 (upd H5 t2 (.tup (refsV acc))) := ext_new ht2
      have e9 : Ext (upd H5 t2 (.tup (refsV acc))) (upd (upd (upd H5 t2 (.tup (refsV acc))) dx (.own x)) x (.ins T.tC dx [])) := (ext_new hdx).trans (ext_new (by rw [upd_ne (Ne.symm hne3)]; exact hx))
      have hTR : TR K (upd (upd (upd H5 t2 (.tup (refsV acc))) dx (.own x)) x (.ins T.tC dx [])) t2 (fillM n s r) := ⟨acc, (SqT.of upd_same).ext e9, hEa.mono fun _ _ z => z.ext (e8.trans e9)⟩
      refine ⟨x, dx, t2, n, fillM n s r, rfl, upd_same, hTR, mat_sq _ _, n1, by omega, mat_all fun i j _ _ => ?_, fun H6 e10 => ⟨rfl, ?_⟩⟩
      · unfold fillF
        have z := cell_B hA i j
        obtain ⟨z1, z2⟩ := z
        split <;> constructor <;> omega
      · have nx : ∀ b o, H5 b = some o → b ≠ x := fun b o z w => by
          have z2 := e8 _ _ z
          rw [w, hx] at z2
          cases z2
        have e11 : Ext H5 (upd H6 x (.ins T.tC dx [("rows", .ref t2)])) := fun b o z => by
          rw [upd_ne (nx b o z)]
          exact (((e8.trans e9).trans e10)) _ _ z
        have ht2x : t2 ≠ x := fun w => by
          rw [← w, upd_same] at hx
          cases hx
        refine q1 r hfr _ x dx t2 (((e3.trans e6).trans e7).trans e11) upd_same ⟨acc, SqT.of ?_, hEa.mono fun _ _ z => z.ext e11⟩
        rw [upd_ne ht2x]
        exact e10 _ _ (e9 _ _ upd_same)
end
end Ow
set_option Elab.async false
set_option linter.all false
set_option maxRecDepth 100000
namespace Ow
open PySem PySem.Spec PyProof.Rows L2
/-! ### the can of numbers -/
def CanAt (H : Hp) (c : Addr) : Prop := ∃ a b k : Int, H c = some (.lst [.int a, .int b, .int k])
/-- all stays but the can -/
def Sip (c : Addr) (H H' : Hp) : Prop := (∀ b o, b ≠ c → H b = some o → H' b = some o) ∧ CanAt H' c
theorem Sip.of_ext {c : Addr} {H H' : Hp} (h : CanAt H c) (e : Ext H H') : Sip c H H' := by
  obtain ⟨a, b, k, z⟩ := h
  exact ⟨fun b o _ q => e _ _ q, a, b, k, e _ _ z⟩
theorem Sip.rfl' {c : Addr} {H : Hp} (h : CanAt H c) : Sip c H H := .of_ext h Ext.rfl'
theorem Sip.trans {c : Addr} {H H1 H2 : Hp} (h : Sip c H H1) (g : Sip c H1 H2) : Sip c H H2 := ⟨fun b o n q => g.1 _ _ n (h.1 _ _ n q), g.2⟩
theorem Sip.ext {c : Addr} {H H1 H2 : Hp} (h : Sip c H H1) (e : Ext H1 H2) : Sip c H H2 := h.trans (.of_ext h.2 e)
theorem Sip.at {c : Addr} {H H' : Hp} {p : Addr} {o : HO} (h : Sip c H H') (hp : H p = some o) (hc : CanAt H c) (ho : ∀ x y z : Int, o ≠ .lst [.int x, .int y, .int z]) : H' p = some o := by
  refine h.1 _ _ (fun w => ?_) hp
  obtain ⟨a, b, k, z⟩ := hc
  rw [w, z] at hp
  exact ho a b k (Option.some.inj hp).symm
theorem sip_sqT {K : PySem.W.Frag} {c a : Addr} {H H' : Hp} {xs : List V} (h : Sip c H H') (hc : CanAt H c) (z : SqT K H a xs) : SqT K H' a xs := by
  rcases z with (z | ⟨o, z⟩) | z
  · exact .inl (.inl (h.at z hc fun _ _ _ w => by cases w))
  · exact .inl (.inr ⟨o, h.at z hc fun _ _ _ w => by cases w⟩)
  · exact .inr z
theorem sip_TR {K : PySem.W.Frag} {c a : Addr} {H H' : Hp} {m : List (List Int)} (h : Sip c H H') (hc : CanAt H c) (z : TR K H a m) : TR K H' a m := by
  obtain ⟨as, z1, z2⟩ := z
  exact ⟨as, sip_sqT h hc z1, z2.mono fun _ _ w => sip_sqT h hc w⟩
theorem sip_upd {c : Addr} {H : Hp} {a b k : Int} : Sip c H (upd H c (.lst [.int a, .int b, .int k])) := ⟨fun p o n q => by rw [upd_ne n]; exact q, a, b, k, upd_same⟩
theorem p99 : (0 : Int) < 999907 := by decide
theorem p21 : (0 : Int) < 2147483629 := by decide
theorem ite_any {b : Bool} {A B : Prop} (ha : A) (hb : B) : if b = true then A else B := by
  cases b with
  | true => exact iteT ha
  | false => exact iteF hb
theorem if_ints {σ : L2.St} {H : Hp} {t : TT} {ta tb : TE} {Q : VK} (key : ∀ e : Int, Q (.int e) H) (h : (∀ e : Int, Q (.int e) H) → tIf t ta tb σ H Q) : tIf t ta tb σ H Q := h key
section
variable {P : Program} {w : World} {K : PySem.W.Frag} {mg : Str → Option Value} {base : Heap}
/-! ### _law_sip -/
theorem scSip : FnScope ["_law_can_here", "_law_top", "_law_digit"] ["_law_can_here", "_law_top"] (defScope sSip) := ⟨rfl, rfl, rfl, by decide +kernel, rfl, by decide +kernel, by decide +kernel⟩
def spSip : Sp := fun vs H Q _ => ∃ (c : Addr) (top : Int), vs = [.ref c, .int top] ∧ CanAt H c ∧ 0 < top ∧ top ≤ 1000000000000000000 ∧ ∀ H' r, Sip c H H' → 0 ≤ r → r < top → Q (.int r) H'
theorem ok_sip (T : Tx K mg) : FnOk P w K mg base CX0 1 T.dSip.f T.dSip.fd ["_law_can_here", "_law_top"] spSip := by
  refine T.dSip.F.ok scSip (fun vs H Q E h => ?_) (fun cdv A outer s H vs Q E hr h => ?_)
  · obtain ⟨c, top, rfl, _⟩ := h
    rfl
  obtain ⟨c, top, rfl, ⟨a, b, k, hc⟩, t0, t1, q⟩ := h
  refine ⟨_, pss_cons (ps_asg (pe_op op_add (pe_ix ix_list (pv 0) pe_int (fun _ _ => rfl)) pe_int) (pg_sub (pv 0) pe_int set_list))
    (pss_cons (ps_if (pt_cmpR op_gt (pe_ix ix_list (pv 0) pe_int (fun _ _ => rfl)) pe_int (nomark _))
      (pss_cons (ps_set (i := 2) scSip.nd rfl (Or.inl rfl) (pe_op op_mod (pe_callTy call_int1 (by rfl) T.B.int (by decide +kernel) (pa_cons (pe_ix ix_list (pv 0) pe_int (fun _ _ => rfl)) pa_nil)) (pv 1)))
      (pss_cons (ps_asg (pe_op op_fdivW (pe_callTy call_int1 (by rfl) T.B.int (by decide +kernel) (pa_cons (pe_ix ix_list (pv 0) pe_int (fun _ _ => rfl)) pa_nil)) (pv 1)) (pg_sub (pv 0) pe_int set_list))
      (pss_one (ps_ret (pv 2))))) pss_nil)
    (pss_cons (ps_asg (pe_op op_mod (pe_callTy call_int1 (by rfl) T.B.int (by decide +kernel) (pa_cons (pe_op op_add (pe_op op_add (pe_op op_mul (pe_ix ix_list (pv 0) pe_int (fun _ _ => rfl)) pe_int) (pe_op op_mul pe_int (pe_ix ix_list (pv 0) pe_int (fun _ _ => rfl)))) pe_int) pa_nil)) pe_int) (pg_sub (pv 0) pe_int set_list))
    (pss_one (ps_ret (pe_op op_mod (pe_callTy call_int1 (by rfl) T.B.int (by decide +kernel) (pa_cons (pe_op op_fdiv (pe_ix ix_list (pv 0) pe_int (fun _ _ => rfl)) pe_int) pa_nil)) (pv 1)))))), ?_⟩
  refine ⟨.ref c, rfl, c, _, 2, _, rfl, rfl, SqL.of hc, rfl, _, _, rfl, rfl, .ref c, rfl, c, _, 2, 2, rfl, rfl, hc, rfl, ?_⟩
  have s1 : Sip c H (upd H c (HO.lst ([V.int a, V.int b, V.int k].set 2 ((fun i j => V.int (i + j)) k 1)))) := sip_upd (a := a) (b := b) (k := k + 1)
  have hc1 : upd H c (HO.lst ([V.int a, V.int b, V.int k].set 2 ((fun i j => V.int (i + j)) k 1))) c = some (.lst [.int a, .int b, .int (k + 1)]) := upd_same
  generalize upd H c (HO.lst ([V.int a, V.int b, V.int k].set 2 ((fun i j => V.int (i + j)) k 1))) = H1 at s1 hc1 ⊢
  refine ⟨.ref c, rfl, c, _, 0, _, rfl, rfl, SqL.of hc1, rfl, _, _, rfl, rfl, _, rfl, ?_⟩
  by_cases ha : a > 0
  · refine iteTT (decide_eq_true ha) ?_
    refine ⟨.ref c, rfl, c, _, 0, _, rfl, rfl, SqL.of hc1, rfl, .inl ⟨_, rfl, .int top, rfl, _, _, rfl, rfl, t0, ?_⟩⟩
    refine ⟨.ref c, rfl, c, _, 0, _, rfl, rfl, SqL.of hc1, rfl, .inl ⟨_, rfl, .int top, rfl, _, _, rfl, rfl, wide_div (b := 60) t0 (by omega) (by decide) (by decide), ?_⟩⟩
    refine ⟨.ref c, rfl, c, _, 0, 0, rfl, rfl, hc1, rfl, ?_⟩
    exact ⟨_, rfl, q _ _ (s1.trans sip_upd) (Int.emod_nonneg _ (by omega)) (Int.emod_lt_of_pos _ t0)⟩
  · refine iteFF (decide_eq_false ha) ?_
    refine ⟨.ref c, rfl, c, _, 1, _, rfl, rfl, SqL.of hc1, rfl, _, _, rfl, rfl, .inr ⟨by decide, by decide⟩, .ref c, rfl, c, _, 2, _, rfl, rfl, SqL.of hc1, rfl, _, _, rfl, rfl, .inl ⟨by decide, by decide⟩, _, _, rfl, rfl, _, _, rfl, rfl, .inl ⟨_, rfl, _, _, rfl, rfl, p21, .ref c, rfl, c, _, 1, 1, rfl, rfl, hc1, rfl, ?_⟩⟩
    refine ⟨.ref c, rfl, c, _, 1, _, rfl, rfl, SqL.of upd_same, rfl, _, _, rfl, rfl, ⟨by decide, by decide⟩, .inl ⟨_, rfl, .int top, rfl, _, _, rfl, rfl, t0, ?_⟩⟩
    exact q _ _ (s1.trans sip_upd) (Int.emod_nonneg _ (by omega)) (Int.emod_lt_of_pos _ t0)
/-! ### _law_pick -/
theorem scPick : FnScope ["_law_can_here", "_law_menu"] ["_law_can_here", "_law_menu"] (defScope sPick) := ⟨rfl, rfl, rfl, by decide +kernel, rfl, by decide +kernel, by decide +kernel⟩
def spPick (K : PySem.W.Frag) : Sp := fun vs H Q _ => ∃ (c p : Addr) (xs : List Int), vs = [.ref c, .ref p] ∧ CanAt H c ∧ H p = some (.lst (intsV xs)) ∧ p ≠ c ∧ xs ≠ [] ∧ xs.length ≤ 100 ∧ ∀ H' x, Sip c H H' → x ∈ xs → Q (.int x) H'
theorem ok_pick (T : Tx K mg) : FnOk P w K mg base CX0 2 T.dPick.f T.dPick.fd ["_law_can_here", "_law_menu"] (spPick K) := by
  have GS : FnOk P w K mg base CX0 1 T.dSip.f T.dSip.fd ["_law_can_here", "_law_top"] spSip := ok_sip T
  refine T.dPick.F.ok scPick (fun vs H Q E h => ?_) (fun cdv A outer s H vs Q E hr h => ?_)
  · obtain ⟨c, p, xs, rfl, _⟩ := h
    rfl
  obtain ⟨c, p, xs, rfl, hc, hp, hpc, hne, hl, q⟩ := h
  refine ⟨_, pss_one (ps_ret (pe_ix ix_list (pv 1) (pe_call GS hr (by rfl) T.dSip.g T.dSip.F.kp T.dSip.b .nil pass0 (pa_cons (pv 0) (pa_cons (pe_callB call_len_seq (by rfl) T.B.len PySem.boot_len (pa_cons (pv 1) pa_nil)) pa_nil))) (fun _ _ => rfl))), ?_⟩
  have lp : 0 < xs.length := List.length_pos_iff.mpr hne
  refine ⟨.ref p, rfl, .ref c, rfl, .ref p, rfl, p, _, rfl, .inl (SqL.of hp), c, _, rfl, hc, ?_, ?_, fun H1 r s1 r0 r1 => ?_⟩
  · rw [List.length_map]; omega
  · rw [List.length_map]; omega
  · rw [List.length_map] at r1
    have hi : r.toNat < xs.length := by omega
    obtain ⟨j, rfl⟩ : ∃ j : Nat, r = (j : Int) := ⟨r.toNat, by omega⟩
    have hj : j < xs.length := by omega
    exact ⟨p, _, _, _, rfl, rfl, SqL.of (s1.1 _ _ hpc hp), atI_nat (int_at (List.getElem?_eq_getElem hj)), q H1 _ s1 (List.getElem_mem hj)⟩
/-! ### _law_can -/
theorem scCan : FnScope ["_law_script", "_law_turn", "_law_entry", "_law_stirred", "_law_each"] ["_law_script", "_law_turn"] (defScope sCan) := ⟨rfl, rfl, rfl, by decide +kernel, rfl, by decide +kernel, by decide +kernel⟩
def spCan (K : PySem.W.Frag) : Sp := fun vs H Q _ => ∃ (a : Addr) (t : Nat) (xs : List Int), vs = [.ref a, .int (t : Int)] ∧ SqL K H a (intsV xs) ∧ ∀ H' p, Ext H H' → H p = none → CanAt H' p → Q (.ref p) H'
theorem cut_ints {xs : List Int} {lo hi : Option Int} {i : Nat} {v : V} (h : (cutV (intsV xs) lo hi)[i]? = some v) : ∃ x : Int, v = .int x := by
  have z := List.mem_of_getElem? h
  unfold cutV at z
  obtain ⟨x, _, e⟩ := List.mem_map.mp (List.mem_of_mem_drop (List.mem_of_mem_take z))
  exact ⟨x, e.symm⟩
theorem ok_can (T : Tx K mg) : FnOk P w K mg base CX0 1 T.dCan.f T.dCan.fd ["_law_script", "_law_turn"] (spCan K) := by
  refine T.dCan.F.ok scCan (fun vs H Q E h => ?_) (fun cdv A outer s H vs Q E hr h => ?_)
  · obtain ⟨a, t, xs, rfl, _⟩ := h
    rfl
  obtain ⟨a, t, xs, rfl, ha, q⟩ := h
  refine ⟨_, pss_cons (ps_set (i := 2) scCan.nd rfl (Or.inl rfl) (pe_ifExp (pt_cmpR op_lt (pv 1) (pe_callB call_len_seq (by rfl) T.B.len PySem.boot_len (pa_cons (pv 0) pa_nil)) (nomark _))
        (pe_callTy call_int1 (by rfl) T.B.int (by decide +kernel) (pa_cons (pe_ix ix_list (pv 0) (pv 1) (fun _ _ => rfl)) pa_nil)) (pe_op op_add (pe_op op_mul pe_int (pv 1)) pe_int)))
    (pss_cons (ps_set (i := 3) scCan.nd rfl (Or.inl rfl) (pe_op op_add pe_int (pe_op op_mul pe_int (pv 1))))
    (pss_cons (ps_for PassesOwn.never rfl (pi_list (pe_slice sl_list (pv 0) po_none (po_some pe_int))) (pg_name (i := 4) scCan.nd rfl (.inl rfl))
      (pss_one (ps_set (i := 3) scCan.nd rfl (Or.inl rfl) (pe_op op_mod (pe_callTy call_int1 (by rfl) T.B.int (by decide +kernel) (pa_cons (pe_op op_add (pe_op op_add (pe_op op_mul (pv 3) pe_int)
        (pe_op op_mod (pe_callTy call_int1 (by rfl) T.B.int (by decide +kernel) (pa_cons (pv 4) pa_nil)) pe_int)) (pv 1)) pa_nil)) pe_int))))
    (pss_cons (ps_set (i := 3) scCan.nd rfl (Or.inl rfl) (pe_op op_mod (pe_callTy call_int1 (by rfl) T.B.int (by decide +kernel) (pa_cons (pe_op op_add (pe_op op_mul (pv 3) pe_int)
        (pe_op op_mod (pe_callTy call_int1 (by rfl) T.B.int (by decide +kernel) (pa_cons (pv 2) pa_nil)) pe_int)) pa_nil)) pe_int))
    (pss_one (ps_ret (pe_lst (pa_cons (pe_ifExp (pt_cmpR op_ge (pe_callB call_abs (by rfl) T.B.abs (by decide +kernel) (pa_cons (pv 2) pa_nil)) (pe_op op_pow pe_int pe_int) (nomark _))
        (pe_callB call_abs (by rfl) T.B.abs (by decide +kernel) (pa_cons (pv 2) pa_nil)) pe_int) (pa_cons (pv 3) (pa_cons pe_int pa_nil))))))))), ?_⟩
  refine if_ints (fun e => ?_) (fun key => ?_)
  · refine ⟨.int t, rfl, _, _, rfl, rfl, .inl ⟨by decide, by decide⟩, _, _, rfl, rfl, ?_⟩
    refine ⟨.ref a, rfl, _, rfl, a, _, rfl, ha, fun p hp => ⟨p, rfl, ⟨_, SqL.of upd_same⟩, ?_⟩⟩
    have e1 : Ext H (upd H p (.lst (cutV (intsV xs) none (some 8)))) := ext_new hp
    refine for_list (K := K) (a := p) (xs := cutV (intsV xs) none (some 8)) (fun i σ H' => ∃ (st : Int) (x4 : Option V), σ = [some (.ref a), some (.int (t : Int)), some (.int e), some (.int st), x4] ∧ Ext (upd H p (.lst (cutV (intsV xs) none (some 8)))) H') ⟨_, none, rfl, Ext.rfl'⟩ ?_ ?_ ?_
    · rintro i σ H' _ ⟨st, x4, rfl, e2⟩
      exact (SqL.of upd_same).ext e2
    · rintro i x σ H' hx ⟨st, x4, rfl, e2⟩
      obtain ⟨v, rfl⟩ := cut_ints hx
      refine ⟨_, rfl, _, _, rfl, rfl, .inr ⟨by decide, by decide⟩, _, rfl, .inl ⟨_, rfl, _, _, rfl, rfl, p99, _, _, rfl, rfl, _, rfl, _, _, rfl, rfl, .inl ⟨_, rfl, _, _, rfl, rfl, p21, _, some (.int v), rfl, e2⟩⟩⟩
    · rintro σ H' ⟨st, x4, rfl, e2⟩
      refine ⟨_, rfl, _, _, rfl, rfl, .inr ⟨by decide, by decide⟩, _, rfl, .inl ⟨_, rfl, _, _, rfl, rfl, p99, _, _, rfl, rfl, .inl ⟨_, rfl, _, _, rfl, rfl, p21, ?_⟩⟩⟩
      have e6 := e1.trans e2
      have key2 : ∀ (x y z : Int) (l : Addr), H' l = none → Q (.ref l) (upd H' l (.lst [.int x, .int y, .int z])) := fun x y z l hl => by
        refine q _ l (e6.trans (ext_new hl)) ?_ ⟨_, _, _, upd_same⟩
        cases z : H l with
        | none => rfl
        | some o =>
          have z2 := e6 _ _ z
          rw [hl] at z2
          cases z2
      refine ⟨_, rfl, _, rfl, _, _, rfl, rfl, ⟨by decide, by decide, by decide⟩, _, _, rfl, rfl, _, rfl, ?_⟩
      refine ite_any ?_ ?_
      · exact ⟨_, rfl, _, rfl, _, rfl, by show 3 ≤ sizeLine; decide, fun l hl => key2 _ _ _ l hl⟩
      · exact ⟨_, rfl, by show 3 ≤ sizeLine; decide, fun l hl => key2 _ _ _ l hl⟩
  · refine ⟨.int t, rfl, .ref a, rfl, a, _, rfl, .inl ha, _, _, rfl, rfl, _, rfl, ?_⟩
    by_cases ht : (t : Int) < (((intsV xs).length : Nat) : Int)
    · refine iteTT (decide_eq_true ht) ?_
      have hi : t < xs.length := by rw [List.length_map] at ht; omega
      exact ⟨.ref a, rfl, .int t, rfl, a, _, _, _, rfl, rfl, ha, atI_nat (int_at (List.getElem?_eq_getElem hi)), .inl ⟨_, rfl, key _⟩⟩
    · refine iteFF (decide_eq_false ht) ?_
      exact ⟨.int t, rfl, _, _, rfl, rfl, .inl ⟨by decide, by decide⟩, _, _, rfl, rfl, key _⟩
end
end Ow
set_option Elab.async false
set_option linter.all false
set_option maxRecDepth 100000
namespace Ow
open PySem PySem.Spec PyProof.Rows L2
/-! ### rows that are made one by one -/
def RowP (R : Nat → Int → Prop) (n : Nat) (xs : List Int) : Prop := xs.length = n ∧ ∀ k x, xs[k]? = some x → R k x
theorem RowP.nil {R : Nat → Int → Prop} : RowP R 0 [] := ⟨rfl, fun k x h => by simp at h⟩
theorem RowP.snoc {R : Nat → Int → Prop} {n : Nat} {xs : List Int} {x : Int} (h : RowP R n xs) (r : R n x) : RowP R (n + 1) (xs ++ [x]) := by
  refine ⟨by rw [List.length_append, h.1]; rfl, fun k y z => ?_⟩
  rcases Nat.lt_trichotomy k xs.length with hi | hi | hi
  · rw [List.getElem?_append_left hi] at z
    exact h.2 k y z
  · subst hi
    rw [List.getElem?_concat_length] at z
    cases z
    rw [h.1]
    exact r
  · rw [List.getElem?_eq_none (by rw [List.length_append]; simp; omega)] at z
    cases z
theorem RowP.set {R : Nat → Int → Prop} {n i : Nat} {xs : List Int} {x : Int} (h : RowP R n xs) (r : R i x) : RowP R n (xs.set i x) := by
  refine ⟨by rw [List.length_set, h.1], fun k y z => ?_⟩
  by_cases e : i = k
  · subst e
    rw [List.getElem?_set_self'] at z
    cases q : xs[i]? with
    | none =>
      rw [q] at z
      cases z
    | some w =>
      rw [q] at z
      cases z
      exact r
  · rw [List.getElem?_set_ne e] at z
    exact h.2 k y z
theorem RowP.mono {R S : Nat → Int → Prop} {n : Nat} {xs : List Int} (h : RowP R n xs) (m : ∀ k x, R k x → S k x) : RowP S n xs := ⟨h.1, fun k x z => m k x (h.2 k x z)⟩
def RowsP (R : Nat → Nat → Int → Prop) (n i : Nat) (m : List (List Int)) : Prop := m.length = i ∧ ∀ k r, m[k]? = some r → RowP (R k) n r
theorem RowsP.nil {R : Nat → Nat → Int → Prop} {n : Nat} : RowsP R n 0 [] := ⟨rfl, fun k x h => by simp at h⟩
theorem RowsP.snoc {R : Nat → Nat → Int → Prop} {n i : Nat} {m : List (List Int)} {r : List Int} (h : RowsP R n i m) (g : RowP (R i) n r) : RowsP R n (i + 1) (m ++ [r]) := by
  refine ⟨by rw [List.length_append, h.1]; rfl, fun k y z => ?_⟩
  rcases Nat.lt_trichotomy k m.length with hi | hi | hi
  · rw [List.getElem?_append_left hi] at z
    exact h.2 k y z
  · subst hi
    rw [List.getElem?_concat_length] at z
    cases z
    rw [h.1]
    exact g
  · rw [List.getElem?_eq_none (by rw [List.length_append]; simp; omega)] at z
    cases z
theorem RowsP.sq {R : Nat → Nat → Int → Prop} {n : Nat} {m : List (List Int)} (h : RowsP R n n m) : Sq n m := ⟨h.1, fun i r z => (h.2 i r z).1⟩
theorem RowsP.all {R : Nat → Nat → Int → Prop} {p : Int → Prop} {n : Nat} {m : List (List Int)} (h : RowsP R n n m) (g : ∀ i j x, R i j x → p x) : All p m := fun i r j x hi hj => g i j x ((h.2 i r hi).2 j x hj)
theorem sip_at {c p : Addr} {H0 H : Hp} {o : HO} (h0 : H0 p = none) (hc0 : CanAt H0 c) (s : Sip c H0 H) : Sip c H0 (upd H p o) := by
  have ne : p ≠ c := fun w => by
    obtain ⟨a, b, k, z⟩ := hc0
    rw [← w, h0] at z
    cases z
  refine ⟨fun b o n q => ?_, ?_⟩
  · have nb : b ≠ p := fun w => by
      rw [w, h0] at q
      cases q
    rw [upd_ne nb]
    exact s.1 _ _ n q
  · obtain ⟨a, b, k, z⟩ := s.2
    exact ⟨a, b, k, by rw [upd_ne (Ne.symm ne)]; exact z⟩
theorem ixN_nat {n j : Nat} (h : j < n) : ixN n (j : Int) = some j := by
  unfold ixN
  rw [if_pos (by omega), if_pos (by omega)]
  simp
theorem fresh_ne {c p : Addr} {H : Hp} (h0 : H p = none) (hc : CanAt H c) : p ≠ c := fun w => by
  obtain ⟨a, b, k, z⟩ := hc
  rw [← w, h0] at z
  cases z
theorem push_sip {K : PySem.W.Frag} {c : Addr} {H0 H : Hp} {p t : Addr} {ae : List Addr} {bs : List (List Int)} {r : List Int} (h0 : H0 p = none) (hc0 : CanAt H0 c) (e : Sip c H0 H) (hl : H p = some (.lst (refsV ae))) (hE : Each (fun a b => SqT K H a (intsV b)) ae bs) (hr : SqT K H t (intsV r)) :
    Sip c H0 (upd H p (.lst (refsV ae ++ [.ref t]))) ∧ upd H p (.lst (refsV ae ++ [.ref t])) p = some (.lst (refsV (ae ++ [t]))) ∧ Each (fun a b => SqT K (upd H p (.lst (refsV ae ++ [.ref t]))) a (intsV b)) (ae ++ [t]) (bs ++ [r]) := by
  refine ⟨sip_at h0 hc0 e, ?_, (hE.mono fun a b z => sqT_at hl z).snoc (sqT_at hl hr)⟩
  rw [upd_same, refsV, refsV, List.map_append]
  rfl
section
variable {P : Program} {w : World} {K : PySem.W.Frag} {mg : Str → Option Value} {base : Heap}
/-! ### _law_sign -/
def sgnI (x : Int) : Int := if 0 < x then 1 else if x < 0 then -1 else 0
theorem scSign : FnScope ["_law_number_here"] ["_law_number_here"] (defScope sSign) := ⟨rfl, rfl, rfl, by decide +kernel, rfl, by decide +kernel, by decide +kernel⟩
def spSign : Sp := fun vs H Q _ => ∃ x : Int, vs = [.int x] ∧ Q (.int (sgnI x)) H
theorem ok_sign (T : Tx K mg) : FnOk P w K mg base CX0 1 T.dSign.f T.dSign.fd ["_law_number_here"] spSign := by
  refine T.dSign.F.ok scSign (fun vs H Q E h => ?_) (fun cdv A outer s H vs Q E hr h => ?_)
  · obtain ⟨x, rfl, _⟩ := h
    rfl
  obtain ⟨x, rfl, q⟩ := h
  refine ⟨_, pss_one (ps_ret (pe_ifExp (pt_cmpR op_gt (pv 0) pe_int (nomark _)) pe_int (pe_ifExp (pt_cmpR op_lt (pv 0) pe_int (nomark _)) (pe_un un_neg pe_int) pe_int))), ?_⟩
  unfold sgnI at q
  refine ⟨.int x, rfl, _, _, rfl, rfl, _, rfl, ?_⟩
  by_cases h : x > 0
  · rw [if_pos h] at q
    exact iteTT (decide_eq_true h) q
  · rw [if_neg h] at q
    refine iteFF (decide_eq_false h) ⟨.int x, rfl, _, _, rfl, rfl, _, rfl, ?_⟩
    by_cases g : x < 0
    · rw [if_pos g] at q
      exact iteTT (decide_eq_true g) ⟨_, rfl, q⟩
    · rw [if_neg g] at q
      exact iteFF (decide_eq_false g) q
/-! ### _law_signs -/
theorem scSigns : FnScope ["_law_can_here", "_law_many", "_law_found", "_law_i", "_law_row", "_law_j"] ["_law_can_here"] (defScope sSigns) := ⟨rfl, rfl, rfl, by decide +kernel, rfl, by decide +kernel, by decide +kernel⟩
def spSigns (K : PySem.W.Frag) : Sp := fun vs H Q _ => ∃ c : Addr, vs = [.ref c] ∧ CanAt H c ∧ ∀ H' p n m, Sip c H H' → TR K H' p m → Sq n m → 1 ≤ n → n ≤ 4 → All B m → Q (.ref p) H'
theorem ok_signs (T : Tx K mg) : FnOk P w K mg base CX0 3 T.dSigns.f T.dSigns.fd ["_law_can_here"] (spSigns K) := by
  have GS : FnOk P w K mg base CX0 1 T.dSip.f T.dSip.fd ["_law_can_here", "_law_top"] spSip := ok_sip T
  have GP : FnOk P w K mg base CX0 2 T.dPick.f T.dPick.fd ["_law_can_here", "_law_menu"] (spPick K) := ok_pick T
  refine T.dSigns.F.ok scSigns (fun vs H Q E h => ?_) (fun cdv A outer s H vs Q E hr h => ?_)
  · obtain ⟨c, rfl, _⟩ := h
    rfl
  obtain ⟨c, rfl, hc, q⟩ := h
  refine ⟨_, pss_cons (ps_par (i := 1) (j := 2) rfl scSigns.nd rfl rfl (by decide) rfl rfl (pa_cons (pe_op op_add pe_int (pe_call GS (hr.mono (by decide)) (by rfl) T.dSip.g T.dSip.F.kp T.dSip.b .nil pass0 (pa_cons (pv 0) (pa_cons pe_int pa_nil)))) (pa_cons (pe_lst pa_nil) pa_nil)) rfl)
    (pss_cons (ps_for PassesOwn.never rfl (pi_range1 (by rfl) T.B.range (pa_cons (pv 1) pa_nil)) (pg_name (i := 3) scSigns.nd rfl (.inl rfl))
      (pss_cons (ps_setLc (i := 4) (own := [("_law_j", 5)]) (g := gName 5) (tt := tYes) rfl scSigns.nd rfl rfl (sw_true rfl rfl rfl (by decide +kernel)) (pi_range1 (by rfl) T.B.range (pa_cons (pv 1) pa_nil)) (blkOk_by (N := ["_law_can_here", "_law_many", "_law_found", "_law_i", "_law_row", "_law_j"]) (sc := defScope sSigns) (by decide +kernel))
          (fun _ _ _ _ _ => pg_name (i := 5) scSigns.nd rfl (Or.inl rfl)) (fun _ _ _ _ _ => pts_nil) (fun _ _ _ _ _ => pe_call GP hr (by rfl) T.dPick.g T.dPick.F.kp T.dPick.b .nil pass0 (pa_cons (pv 0) (pa_cons (pe_lst (pa_cons pe_int (pa_cons pe_int (pa_cons (pe_un un_neg pe_int) pa_nil)))) pa_nil))))
      (pss_cons (ps_asg (pe_call GP hr (by rfl) T.dPick.g T.dPick.F.kp T.dPick.b .nil pass0 (pa_cons (pv 0) (pa_cons (pe_lst (pa_cons pe_int (pa_cons pe_int (pa_cons pe_int (pa_cons pe_int (pa_cons pe_int (pa_cons pe_int pa_nil))))))) pa_nil))) (pg_sub (pv 4) (pv 3) set_list))
      (pss_one (ps_expr (pe_bm PySem.F.plainAttrs_list PySem.F.slot_list_append PySem.F.type_list_append mt_append (pv 2) (pa_cons (pe_tupleOf (by rfl) T.B.tup (pv 4)) pa_nil)))))))
    (pss_one (ps_ret (pe_tupleOf (by rfl) T.B.tup (pv 2))))), ?_⟩
  refine ⟨.ref c, rfl, c, 4, rfl, hc, by decide, by decide, fun H1 r s1 r0 r4 => ⟨_, _, rfl, rfl, by decide, fun pf hpf => ⟨_, _, rfl, ?_⟩⟩⟩
  obtain ⟨n, hn⟩ : ∃ n : Nat, (1 : Int) + r = (n : Int) := ⟨(1 + r).toNat, by omega⟩
  have n1 : 1 ≤ n := by omega
  have n4 : n ≤ 4 := by omega
  show tSeq _ _ _ [some (V.ref c), some (V.int (1 + r)), _, _, _, _] _
  rw [hn]
  have npf : pf ≠ c := fresh_ne hpf s1.2
  refine ⟨.int n, rfl, n, rfl, by omega, by omega, ?_⟩
  have e0 : ((n : Int)).toNat = n := by omega
  rw [e0]
  refine for_range (fun i σ H' => ∃ x3 x4, σ = [some (.ref c), some (.int n), some (.ref pf), x3, x4, none] ∧ Sip c H1 H' ∧ i ≤ n ∧ ∃ acc m, H' pf = some (.lst (refsV acc)) ∧ Each (fun p r => SqT K H' p (intsV r)) acc m ∧ RowsP (fun _ _ x => B x) n i m)
    ⟨none, none, rfl, sip_at hpf s1.2 (Sip.rfl' s1.2), Nat.zero_le _, [], [], upd_same, Each.nil, RowsP.nil⟩ ?_ ?_
  · rintro i σ H2 hi ⟨x3, x4, rfl, s2, _, acc, m, hacc, hE, hm⟩
    have c2 : CanAt H2 c := s2.2
    refine ⟨.int n, rfl, n, rfl, by omega, by omega, fun D hD => ?_⟩
    have nD : D ≠ c := fresh_ne hD c2
    have nDpf : pf ≠ D := ne_of_none hacc hD
    rw [e0]
    refine lc_range (fun j H' => Sip c H2 H' ∧ ∃ xs, H' D = some (.lst (intsV xs)) ∧ RowP (fun _ x => B x) j xs) ⟨sip_at hD c2 (Sip.rfl' c2), [], upd_same, RowP.nil⟩ ?_ ?_
    · rintro j H3 hj ⟨s3, xs, hxs, hP⟩
      refine ⟨rfl, .ref c, rfl, _, rfl, by show 3 ≤ sizeLine; decide, fun mn hmn => ?_⟩
      have e3 : Ext H3 (upd H3 mn (.lst (intsV [0, 1, -1]))) := ext_new hmn
      refine ⟨c, mn, [0, 1, -1], rfl, (s3.ext e3).2, upd_same, fresh_ne hmn s3.2, by decide, by decide, fun H4 x s4 hx => ?_⟩
      have hB : B x := by
        simp only [List.mem_cons, List.not_mem_nil, or_false] at hx
        rcases hx with rfl | rfl | rfl <;> exact ⟨by decide, by decide⟩
      have h4 : H4 D = some (.lst (intsV xs)) := s4.1 _ _ nD (e3 _ _ hxs)
      refine ⟨_, h4, ?_, sip_at hD c2 ((s3.ext e3).trans s4), xs ++ [x], ?_, hP.snoc hB⟩
      · rw [List.length_map, hP.1]
        exact small1000 (by omega)
      · rw [upd_same, intsV, intsV, List.map_append]
        rfl
    · rintro H3 ⟨s3, xs, hxs, hP⟩
      refine ⟨.ref c, rfl, by show 6 ≤ sizeLine; decide, fun mn hmn => ?_⟩
      have e3 : Ext H3 (upd H3 mn (.lst (intsV [1, 1, 1, 1, 1, 0]))) := ext_new hmn
      refine ⟨c, mn, [1, 1, 1, 1, 1, 0], rfl, (s3.ext e3).2, upd_same, fresh_ne hmn s3.2, by decide, by decide, fun H4 x s4 hx => ?_⟩
      have hB : B x := by
        simp only [List.mem_cons, List.not_mem_nil, or_false] at hx
        rcases hx with rfl | rfl | rfl | rfl | rfl | rfl <;> exact ⟨by decide, by decide⟩
      have h4 : H4 D = some (.lst (intsV xs)) := s4.1 _ _ nD (e3 _ _ hxs)
      have e5 : (0 : Int) + (i : Int) = ((i : Nat) : Int) := by omega
      refine ⟨.ref D, rfl, .int (0 + (i : Int)), rfl, D, _, _, i, rfl, rfl, h4, ?_, ?_⟩
      · rw [e5]
        exact ixN_nat (by rw [List.length_map, hP.1]; exact hi)
      have es : (intsV xs).set i (.int x) = intsV (xs.set i x) := by rw [intsV, intsV, List.map_set]
      rw [es]
      have s5 : Sip c H2 (upd H4 D (.lst (intsV (xs.set i x)))) := sip_at hD c2 ((s3.ext e3).trans s4)
      have hacc5 : upd H4 D (.lst (intsV (xs.set i x))) pf = some (.lst (refsV acc)) := by
        rw [upd_ne nDpf]
        exact s4.1 _ _ npf (e3 _ _ (s3.1 _ _ npf hacc))
      have hD5 : upd H4 D (.lst (intsV (xs.set i x))) D = some (.lst (intsV (xs.set i x))) := upd_same
      generalize upd H4 D (.lst (intsV (xs.set i x))) = H5 at s5 hacc5 hD5 ⊢
      refine ⟨.ref pf, rfl, .inl ⟨rfl, _, SqL.of hacc5⟩, .ref D, rfl, .inl ⟨D, _, rfl, SqL.of hD5, fun t ht => ⟨pf, _, _, rfl, rfl, ext_new ht _ _ hacc5, ?_, ?_⟩⟩⟩
      · rw [List.length_map, hE.1, hm.1]
        exact small1000 (by omega)
      have e6 : Ext H5 (upd H5 t (.tup (intsV (xs.set i x)))) := ext_new ht
      obtain ⟨w1, w2, w3⟩ := push_sip hpf s1.2 ((s2.trans s5).ext e6) (e6 _ _ hacc5) (hE.mono fun a b z => (sip_sqT s5 c2 z).ext e6) (r := xs.set i x) (SqT.of upd_same)
      exact ⟨_, _, rfl, w1, hi, _, _, w2, w3, hm.snoc (hP.set hB)⟩
  · rintro σ H2 ⟨x3, x4, rfl, s2, _, acc, m, hacc, hE, hm⟩
    refine ⟨.ref pf, rfl, .inl ⟨pf, _, rfl, SqL.of hacc, fun t ht => ?_⟩⟩
    have e6 : Ext H2 (upd H2 t (.tup (refsV acc))) := ext_new ht
    exact q _ t n m ((s1.trans s2).ext e6) ⟨acc, SqT.of upd_same, hE.mono fun _ _ z => z.ext e6⟩ hm.sq n1 n4 (hm.all fun _ _ _ z => z)
end
end Ow
set_option Elab.async false
set_option linter.all false
set_option maxRecDepth 100000
namespace Ow
open PySem PySem.Spec PyProof.Rows L2
theorem at_heap {F : Hp → Prop} {H H' : Hp} (e : H = H') (h : F H') : F H := by
  subst e
  exact h
section
variable {P : Program} {w : World} {K : PySem.W.Frag} {mg : Str → Option Value} {base : Heap}
/-! ### _law_grid -/
theorem scGrid : FnScope ["_law_can_here", "_law_most", "_law_wide", "_law_many", "_law_extra", "_law_rows", "_law_i", "_law_row", "_law_j"] ["_law_can_here", "_law_most", "_law_wide"] (defScope sGrid) := ⟨rfl, rfl, rfl, by decide +kernel, rfl, by decide +kernel, by decide +kernel⟩
def spGrid (K : PySem.W.Frag) : Sp := fun vs H Q _ => ∃ c : Addr, vs = [.ref c, .int 4, .int 3] ∧ CanAt H c ∧ ∀ H' p n m, Sip c H H' → TR K H' p m → Sq n m → 1 ≤ n → n ≤ 4 → All (fun x => -12 ≤ x ∧ x ≤ 12) m → Q (.ref p) H'
theorem ok_grid (T : Tx K mg) : FnOk P w K mg base CX0 3 T.dGrid.f T.dGrid.fd ["_law_can_here", "_law_most", "_law_wide"] (spGrid K) := by
  have GS : FnOk P w K mg base CX0 1 T.dSip.f T.dSip.fd ["_law_can_here", "_law_top"] spSip := ok_sip T
  have GP : FnOk P w K mg base CX0 2 T.dPick.f T.dPick.fd ["_law_can_here", "_law_menu"] (spPick K) := ok_pick T
  refine T.dGrid.F.ok scGrid (fun vs H Q E h => ?_) (fun cdv A outer s H vs Q E hr h => ?_)
  · obtain ⟨c, rfl, _⟩ := h
    rfl
  obtain ⟨c, rfl, hc, q⟩ := h
  refine ⟨_, pss_cons (ps_set (i := 3) scGrid.nd rfl (Or.inl rfl) (pe_op op_add pe_int (pe_call GS (hr.mono (by decide)) (by rfl) T.dSip.g T.dSip.F.kp T.dSip.b .nil pass0 (pa_cons (pv 0) (pa_cons (pv 1) pa_nil)))))
    (pss_cons (ps_par (i := 4) (j := 5) rfl scGrid.nd rfl rfl (by decide) rfl rfl (pa_cons (pe_call GP hr (by rfl) T.dPick.g T.dPick.F.kp T.dPick.b .nil pass0 (pa_cons (pv 0) (pa_cons (pe_lst (pa_cons pe_int (pa_cons pe_int (pa_cons (pv 2) (pa_cons (pe_op op_mul pe_int (pv 2)) (pa_cons (pe_op op_mul pe_int (pv 2)) pa_nil)))))) pa_nil))) (pa_cons (pe_lst pa_nil) pa_nil)) rfl)
    (pss_cons (ps_for PassesOwn.never rfl (pi_range1 (by rfl) T.B.range (pa_cons (pv 3) pa_nil)) (pg_name (i := 6) scGrid.nd rfl (.inl rfl))
      (pss_cons (ps_setLc (i := 7) (own := [("_law_j", 8)]) (g := gName 8) (tt := tYes) rfl scGrid.nd rfl rfl (sw_true rfl rfl rfl (by decide +kernel)) (pi_range1 (by rfl) T.B.range (pa_cons (pv 3) pa_nil)) (blkOk_by (N := ["_law_can_here", "_law_most", "_law_wide", "_law_many", "_law_extra", "_law_rows", "_law_i", "_law_row", "_law_j"]) (sc := defScope sGrid) (by decide +kernel))
          (fun _ _ _ _ _ => pg_name (i := 8) scGrid.nd rfl (Or.inl rfl)) (fun _ _ _ _ _ => pts_nil) (fun _ _ _ _ _ => pe_op op_sub (pe_call GS (hr.mono (by decide)) (by rfl) T.dSip.g T.dSip.F.kp T.dSip.b .nil pass0 (pa_cons (pv 0) (pa_cons (pe_op op_add (pe_op op_mul pe_int (pv 2)) pe_int) pa_nil))) (pv 2)))
      (pss_cons (ps_asg (pe_op op_add (pe_ix ix_list (pv 7) (pv 6) (fun _ _ => rfl)) (pv 4)) (pg_sub (pv 7) (pv 6) set_list))
      (pss_one (ps_expr (pe_bm PySem.F.plainAttrs_list PySem.F.slot_list_append PySem.F.type_list_append mt_append (pv 5) (pa_cons (pe_tupleOf (by rfl) T.B.tup (pv 7)) pa_nil)))))))
    (pss_one (ps_ret (pe_tupleOf (by rfl) T.B.tup (pv 5)))))), ?_⟩
  refine ⟨.ref c, rfl, .int 4, rfl, c, 4, rfl, hc, by decide, by decide, fun H1 r s1 r0 r4 => ⟨_, _, rfl, rfl, ?_⟩⟩
  obtain ⟨n, hn⟩ : ∃ n : Nat, (1 : Int) + r = (n : Int) := ⟨(1 + r).toNat, by omega⟩
  have n1 : 1 ≤ n := by omega
  have n4 : n ≤ 4 := by omega
  show tSeq _ _ _ [some (V.ref c), some (V.int 4), some (V.int 3), some (V.int (1 + r)), _, _, _, _, _] _
  rw [hn]
  refine ⟨.ref c, rfl, .int 3, rfl, .int 3, rfl, _, _, rfl, rfl, .inl ⟨by decide, by decide⟩, .int 3, rfl, _, _, rfl, rfl, .inl ⟨by decide, by decide⟩, by show 5 ≤ sizeLine; decide, fun mn hmn => ?_⟩
  have e2 : Ext H1 (upd H1 mn (.lst (intsV [0, 0, 3, 2 * 3, 3 * 3]))) := ext_new hmn
  refine ⟨c, mn, [0, 0, 3, 2 * 3, 3 * 3], rfl, (s1.ext e2).2, upd_same, fresh_ne hmn s1.2, by decide, by decide, fun H2 ex s2 hex => ?_⟩
  have hex2 : 0 ≤ ex ∧ ex ≤ 9 := by
    simp only [List.mem_cons, List.not_mem_nil, or_false] at hex
    omega
  have s3 : Sip c H H2 := (s1.ext e2).trans s2
  have c3 : CanAt H2 c := s3.2
  refine ⟨by decide, fun pf hpf => ⟨_, _, rfl, ?_⟩⟩
  have npf : pf ≠ c := fresh_ne hpf c3
  refine ⟨.int n, rfl, n, rfl, by omega, by omega, ?_⟩
  have e0 : ((n : Int)).toNat = n := by omega
  rw [e0]
  refine for_range (fun i σ H' => ∃ x3 x4, σ = [some (.ref c), some (.int 4), some (.int 3), some (.int n), some (.int ex), some (.ref pf), x3, x4, none] ∧ Sip c H2 H' ∧ i ≤ n ∧ ∃ acc m, H' pf = some (.lst (refsV acc)) ∧ Each (fun p r => SqT K H' p (intsV r)) acc m ∧ RowsP (fun _ _ x => -12 ≤ x ∧ x ≤ 12) n i m)
    ⟨none, none, rfl, sip_at hpf c3 (Sip.rfl' c3), Nat.zero_le _, [], [], upd_same, Each.nil, RowsP.nil⟩ ?_ ?_
  · rintro i σ H3 hi ⟨x3, x4, rfl, t2, _, acc, m, hacc, hE, hm⟩
    have c2 : CanAt H3 c := t2.2
    refine ⟨.int n, rfl, n, rfl, by omega, by omega, fun D hD => ?_⟩
    have nD : D ≠ c := fresh_ne hD c2
    have nDpf : pf ≠ D := ne_of_none hacc hD
    rw [e0]
    refine lc_range (fun j H' => Sip c H3 H' ∧ ∃ xs, H' D = some (.lst (intsV xs)) ∧ RowP (fun _ x => -3 ≤ x ∧ x ≤ 3) j xs) ⟨sip_at hD c2 (Sip.rfl' c2), [], upd_same, RowP.nil⟩ ?_ ?_
    · rintro j H4 hj ⟨t3, xs, hxs, hP⟩
      refine ⟨rfl, .ref c, rfl, .int 3, rfl, _, _, rfl, rfl, .inl ⟨by decide, by decide⟩, _, _, rfl, rfl, c, _, rfl, t3.2, by decide, by decide, fun H5 x t4 x0 x7 => ?_⟩
      have x7' : x < 7 := x7
      have h5 : H5 D = some (.lst (intsV xs)) := t4.1 _ _ nD hxs
      refine ⟨.int 3, rfl, _, _, rfl, rfl, _, h5, ?_, sip_at hD c2 (t3.trans t4), xs ++ [x - 3], ?_, hP.snoc ⟨by omega, by omega⟩⟩
      · rw [List.length_map, hP.1]
        exact small1000 (by omega)
      · rw [upd_same, intsV, intsV, List.map_append]
        rfl
    · rintro H4 ⟨t3, xs, hxs, hP⟩
      have hil : i < xs.length := by rw [hP.1]; exact hi
      have hix := List.getElem?_eq_getElem hil
      have hB := hP.2 i _ hix
      have e5 : (0 : Int) + (i : Int) = ((i : Nat) : Int) := by omega
      rw [e5]
      refine ⟨.ref D, rfl, .int (i : Int), rfl, D, _, _, _, rfl, rfl, SqL.of hxs, atI_nat (int_at hix), .int ex, rfl, _, _, rfl, rfl, .ref D, rfl, .int (i : Int), rfl, D, _, _, i, rfl, rfl, hxs, ?_, ?_⟩
      · exact ixN_nat (by rw [List.length_map, hP.1]; exact hi)
      have es : (intsV xs).set i (.int (xs[i] + ex)) = intsV (xs.set i (xs[i] + ex)) := by rw [intsV, intsV, List.map_set]
      refine at_heap (congrArg (fun l => upd H4 D (.lst l)) es) ?_
      have t5 : Sip c H3 (upd H4 D (.lst (intsV (xs.set i (xs[i] + ex))))) := sip_at hD c2 t3
      have hacc5 : upd H4 D (.lst (intsV (xs.set i (xs[i] + ex)))) pf = some (.lst (refsV acc)) := by
        rw [upd_ne nDpf]
        exact t3.1 _ _ npf hacc
      have hD5 : upd H4 D (.lst (intsV (xs.set i (xs[i] + ex)))) D = some (.lst (intsV (xs.set i (xs[i] + ex)))) := upd_same
      generalize upd H4 D (.lst (intsV (xs.set i (xs[i] + ex)))) = H5 at t5 hacc5 hD5 ⊢
      refine ⟨.ref pf, rfl, .inl ⟨rfl, _, SqL.of hacc5⟩, .ref D, rfl, .inl ⟨D, _, rfl, SqL.of hD5, fun t ht => ⟨pf, _, _, rfl, rfl, ext_new ht _ _ hacc5, ?_, ?_⟩⟩⟩
      · rw [List.length_map, hE.1, hm.1]
        exact small1000 (by omega)
      have e6 : Ext H5 (upd H5 t (.tup (intsV (xs.set i (xs[i] + ex))))) := ext_new ht
      obtain ⟨w1, w2, w3⟩ := push_sip hpf c3 ((t2.trans t5).ext e6) (e6 _ _ hacc5) (hE.mono fun a b z => (sip_sqT t5 c2 z).ext e6) (r := xs.set i (xs[i] + ex)) (SqT.of upd_same)
      refine ⟨_, _, rfl, w1, hi, _, _, w2, w3, hm.snoc ((hP.mono fun k x z => ?_).set ?_)⟩
      · exact ⟨by have := z.1; omega, by have := z.2; omega⟩
      · obtain ⟨b1, b2⟩ := hB
        exact ⟨by omega, by omega⟩
  · rintro σ H3 ⟨x3, x4, rfl, s4, _, acc, m, hacc, hE, hm⟩
    refine ⟨.ref pf, rfl, .inl ⟨pf, _, rfl, SqL.of hacc, fun t ht => ?_⟩⟩
    have e6 : Ext H3 (upd H3 t (.tup (refsV acc))) := ext_new ht
    exact q _ t n m ((s3.trans s4).ext e6) ⟨acc, SqT.of upd_same, hE.mono fun _ _ z => z.ext e6⟩ hm.sq n1 n4 (hm.all fun _ _ _ z => z)
/-! ### _law_filled -/
theorem scFilled : FnScope ["_law_can_here", "_law_signs_here", "_law_found", "_law_row", "_law_one"] ["_law_can_here", "_law_signs_here"] (defScope sFilled) := ⟨rfl, rfl, rfl, by decide +kernel, rfl, by decide +kernel, by decide +kernel⟩
def Fill (s : List (List Int)) (i j : Nat) (x : Int) : Prop := ∃ q : Int, 1 ≤ q ∧ q ≤ 1000000000000000000 ∧ x = cell s i j * q
def spFilled (K : PySem.W.Frag) : Sp := fun vs H Q _ => ∃ (c a : Addr) (n : Nat) (s : List (List Int)), vs = [.ref c, .ref a] ∧ CanAt H c ∧ TR K H a s ∧ Sq n s ∧ n ≤ 4 ∧ ∀ H' p m, Sip c H H' → TR K H' p m → RowsP (Fill s) n n m → Q (.ref p) H'
theorem ok_filled (T : Tx K mg) : FnOk P w K mg base CX0 3 T.dFilled.f T.dFilled.fd ["_law_can_here", "_law_signs_here"] (spFilled K) := by
  have GS : FnOk P w K mg base CX0 1 T.dSip.f T.dSip.fd ["_law_can_here", "_law_top"] spSip := ok_sip T
  have GP : FnOk P w K mg base CX0 2 T.dPick.f T.dPick.fd ["_law_can_here", "_law_menu"] (spPick K) := ok_pick T
  refine T.dFilled.F.ok scFilled (fun vs H Q E h => ?_) (fun cdv A outer s H vs Q E hr h => ?_)
  · obtain ⟨c, a, n, s, rfl, _⟩ := h
    rfl
  obtain ⟨c, a, n, s, rfl, hc, hT, hq, n4, q⟩ := h
  refine ⟨_, pss_cons (ps_set (i := 2) scFilled.nd rfl (Or.inl rfl) (pe_lst pa_nil))
    (pss_cons (ps_for PassesOwn.never rfl (pi_tup (pv 1)) (pg_name (i := 3) scFilled.nd rfl (.inl rfl))
      (pss_one (ps_expr (pe_bm PySem.F.plainAttrs_list PySem.F.slot_list_append PySem.F.type_list_append mt_append (pv 2) (pa_cons (pe_tupleOf (by rfl) T.B.tup
        (pe_lc (own := [("_law_one", 4)]) (g := gName 4) (tt := tYes) rfl scFilled.nd (pi_tup (pv 3)) (blkOk_by (N := ["_law_can_here", "_law_signs_here", "_law_found", "_law_row", "_law_one"]) (sc := defScope sFilled) (by decide +kernel))
          (fun _ _ _ _ _ => pg_name (i := 4) scFilled.nd rfl (Or.inl rfl)) (fun _ _ _ _ _ => pts_nil)
          (fun _ _ _ _ _ => pe_op op_mul (pv 4) (pe_op op_add pe_int (pe_call GS (hr.mono (by decide)) (by rfl) T.dSip.g T.dSip.F.kp T.dSip.b .nil pass0 (pa_cons (pv 0) (pa_cons
            (pe_call GP hr (by rfl) T.dPick.g T.dPick.F.kp T.dPick.b .nil pass0 (pa_cons (pv 0) (pa_cons (pe_lst (pa_cons pe_int (pa_cons pe_int (pa_cons (pe_op op_pow pe_int pe_int) (pa_cons (pe_op op_pow pe_int pe_int) pa_nil))))) pa_nil))) pa_nil))))))) pa_nil)))))
    (pss_one (ps_ret (pe_tupleOf (by rfl) T.B.tup (pv 2))))), ?_⟩
  refine ⟨by decide, fun pf hpf => ?_⟩
  have npf : pf ≠ c := fresh_ne hpf hc
  obtain ⟨as, hS, hE0⟩ := id hT
  have la : (refsV as).length = n := by rw [List.length_map, hE0.1, hq.1]
  refine ⟨.ref a, rfl, a, rfl, ⟨_, hS.ext (ext_new hpf)⟩, for_tup (K := K) (a := a) (xs := refsV as) (fun i σ H' => ∃ x3, σ = [some (.ref c), some (.ref a), some (.ref pf), x3, none] ∧ Sip c H H' ∧ i ≤ n ∧ ∃ acc m, H' pf = some (.lst (refsV acc)) ∧ Each (fun p r => SqT K H' p (intsV r)) acc m ∧ RowsP (Fill s) n i m)
    ⟨none, rfl, sip_at hpf hc (Sip.rfl' hc), Nat.zero_le _, [], [], upd_same, Each.nil, RowsP.nil⟩ ?_ ?_ ?_⟩
  · rintro i σ H3 _ ⟨x3, rfl, t2, _⟩
    exact sip_sqT t2 hc hS
  · rintro i x σ H3 hx ⟨x3, rfl, t2, _, acc, m, hacc, hE, hm⟩
    have c2 : CanAt H3 c := t2.2
    obtain ⟨ra, rfl, hra⟩ := get_refs hx
    obtain ⟨row, hrow, hra2⟩ := hE0.get' hra
    have hin : i < n := by
      have z := (List.getElem?_eq_some_iff.mp hx).1
      rw [la] at z
      exact z
    have lr := hq.2 i row hrow
    have hra3 : SqT K H3 ra (intsV row) := sip_sqT t2 hc hra2
    refine ⟨.ref pf, rfl, .inl ⟨rfl, _, SqL.of hacc⟩, .ref ra, rfl, ra, rfl, ⟨_, hra3⟩, fun D hD => ?_⟩
    have nD : D ≠ c := fresh_ne hD c2
    have nDpf : pf ≠ D := ne_of_none hacc hD
    refine lc_tup (K := K) (a := ra) (xs := intsV row) (fun j H' => Sip c H3 H' ∧ j ≤ n ∧ ∃ xs, H' D = some (.lst (intsV xs)) ∧ RowP (Fill s i) j xs) ⟨sip_at hD c2 (Sip.rfl' c2), Nat.zero_le _, [], upd_same, RowP.nil⟩ (fun j H' _ z => sip_sqT z.1 c2 hra3) ?_ ?_
    · rintro j y H4 hy ⟨t3, _, xs, hxs, hP⟩
      obtain ⟨v, rfl, hv⟩ := get_ints hy
      have hjn : j < n := by
        have z := (List.getElem?_eq_some_iff.mp hv).1
        rw [lr] at z
        exact z
      have ec : cell s i j = v := cell_at hrow hv
      refine ⟨rfl, .int v, rfl, .ref c, rfl, .ref c, rfl, _, _, rfl, rfl, ⟨by decide, by decide, by decide⟩, _, _, rfl, rfl, ⟨by decide, by decide, by decide⟩, by show 4 ≤ sizeLine; decide, fun mn hmn => ?_⟩
      have e3 : Ext H4 (upd H4 mn (.lst (intsV [1, 5, 10 ^ Int.toNat 6, 10 ^ Int.toNat 18]))) := ext_new hmn
      refine ⟨c, mn, [1, 5, 10 ^ Int.toNat 6, 10 ^ Int.toNat 18], rfl, (t3.ext e3).2, upd_same, fresh_ne hmn t3.2, by decide, by decide, fun H5 x s5 hx => ?_⟩
      have hx2 : 0 < x ∧ x ≤ 1000000000000000000 := by
        simp only [List.mem_cons, List.not_mem_nil, or_false] at hx
        rcases hx with rfl | rfl | rfl | rfl <;> exact ⟨by decide, by decide⟩
      refine ⟨c, x, rfl, s5.2, hx2.1, hx2.2, fun H6 r s6 r0 r1 => ?_⟩
      have t6 : Sip c H3 H6 := (((t3.ext e3).trans s5).trans s6)
      have h6 : H6 D = some (.lst (intsV xs)) := s6.1 _ _ nD (s5.1 _ _ nD (e3 _ _ hxs))
      refine ⟨_, _, rfl, rfl, _, _, rfl, rfl, .inr ⟨by omega, by omega⟩, _, h6, ?_, sip_at hD c2 t6, hjn, xs ++ [v * (1 + r)], ?_, hP.snoc ⟨1 + r, by omega, by omega, by rw [ec]⟩⟩
      · rw [List.length_map, hP.1]
        exact small1000 (by omega)
      · rw [upd_same, intsV, intsV, List.map_append]
        rfl
    · rintro H4 ⟨t3, _, xs, hxs, hP⟩
      rw [List.length_map, lr] at hP
      refine .inl ⟨D, _, rfl, SqL.of hxs, fun t ht => ?_⟩
      have e6 : Ext H4 (upd H4 t (.tup (intsV xs))) := ext_new ht
      have hacc5 : upd H4 t (.tup (intsV xs)) pf = some (.lst (refsV acc)) := e6 _ _ (t3.1 _ _ npf hacc)
      refine ⟨pf, _, _, rfl, rfl, hacc5, ?_, ?_⟩
      · rw [List.length_map, hE.1, hm.1]
        exact small1000 (by omega)
      obtain ⟨w1, w2, w3⟩ := push_sip hpf hc ((t2.trans t3).ext e6) hacc5 (hE.mono fun a b z => (sip_sqT t3 c2 z).ext e6) (r := xs) (SqT.of upd_same)
      exact ⟨_, rfl, w1, hin, _, _, w2, w3, hm.snoc hP⟩
  · rintro σ H3 ⟨x3, rfl, t2, _, acc, m, hacc, hE, hm⟩
    rw [la] at hm
    refine ⟨.ref pf, rfl, .inl ⟨pf, _, rfl, SqL.of hacc, fun t ht => ?_⟩⟩
    have e6 : Ext H3 (upd H3 t (.tup (refsV acc))) := ext_new ht
    exact q _ t m (t2.ext e6) ⟨acc, SqT.of upd_same, hE.mono fun _ _ z => z.ext e6⟩ hm
end
end Ow
set_option Elab.async false
set_option linter.all false
set_option maxRecDepth 100000
namespace Ow
open PySem PySem.Spec PyProof.Rows L2
theorem sqL_ne {K : PySem.W.Frag} {H : Hp} {p a : Addr} {xs : List V} {o : HO} (ne : a ≠ p) (h : SqL K H a xs) : SqL K (upd H p o) a xs := by
  rcases h with (h | ⟨o2, h⟩) | h
  · exact .inl (.inl (by rw [upd_ne ne]; exact h))
  · exact .inl (.inr ⟨o2, by rw [upd_ne ne]; exact h⟩)
  · exact .inr h
theorem drop_ints (r : List Int) : (intsV r).drop 1 = intsV (r.drop 1) := by rw [intsV, intsV, List.map_drop]
abbrev Small64 (x : Int) : Prop := -(2 ^ 64) < x ∧ x < 2 ^ 64
theorem rest_len : ∀ n, n ≤ 3 → ∀ i, i ≤ n → ((List.range (n + 1)).filter fun k => decide (k ≠ i)).length = n := by decide +kernel
theorem rest_at {n : Nat} {m : List (List Int)} {i k : Nat} {r : List Int} (h : (rest n m i)[k]? = some r) : ∃ j, j < n ∧ r = (m.getD j []).drop 1 := by
  have z := List.mem_of_getElem? h
  unfold rest at z
  obtain ⟨j, hj, e⟩ := List.mem_map.mp z
  exact ⟨j, List.mem_range.mp (List.mem_filter.mp hj).1, e.symm⟩
theorem rest_sq {n : Nat} {m : List (List Int)} {i : Nat} (hn : n ≤ 3) (hi : i ≤ n) (h : Sq (n + 1) m) : Sq n (rest (n + 1) m i) := by
  refine ⟨by unfold rest; rw [List.length_map]; exact rest_len n hn i hi, fun k r hr => ?_⟩
  obtain ⟨j, hj, rfl⟩ := rest_at hr
  have hj2 : j < m.length := by rw [h.1]; exact hj
  have e := List.getElem?_eq_getElem hj2
  have e2 : m.getD j [] = m[j] := by rw [List.getD_eq_getElem?_getD, e, Option.getD_some]
  rw [List.length_drop, e2, h.2 j _ e]
  omega
theorem rest_all {p : Int → Prop} {n : Nat} {m : List (List Int)} {i : Nat} (h : Sq n m) (g : All p m) : All p (rest n m i) := fun k r c x hr hx => by
  obtain ⟨j, hj, rfl⟩ := rest_at hr
  have hj2 : j < m.length := by rw [h.1]; exact hj
  have e := List.getElem?_eq_getElem hj2
  have e2 : m.getD j [] = m[j] := by rw [List.getD_eq_getElem?_getD, e, Option.getD_some]
  rw [e2, List.getElem?_drop] at hx
  exact g j _ _ x e hx
section
variable {P : Program} {w : World} {K : PySem.W.Frag} {mg : Str → Option Value} {base : Heap}
/-! ### _law_det -/
theorem scDet : FnScope ["_law_rows", "_law_found", "_law_i", "_law_rest", "_law_k"] ["_law_rows"] (defScope sDet) := ⟨rfl, rfl, rfl, by decide +kernel, rfl, by decide +kernel, by decide +kernel⟩
def spDet (K : PySem.W.Frag) (n : Nat) : Sp := fun vs H Q _ => ∃ (p : Addr) (m : List (List Int)), vs = [.ref p] ∧ LR K H p m ∧ Sq n m ∧ All Small64 m ∧ ∀ H', Ext H H' → Q (.int (det n m)) H'
theorem ok_det (T : Tx K mg) : ∀ n, n ≤ 4 → FnOk P w K mg base CX0 (n + 1) T.dDet.f T.dDet.fd ["_law_rows"] (spDet K n)
  | 0, _ => by
    refine T.dDet.F.ok scDet (fun vs H Q E h => ?_) (fun cdv A outer s H vs Q E hr h => ?_)
    · obtain ⟨p, m, rfl, _⟩ := h
      rfl
    obtain ⟨p, m, rfl, ⟨as, hS, hE⟩, hq, _, q⟩ := h
    refine ⟨_, pss_cons (ps_if (pt_cmpR op_eq (pe_callB call_len_seq (by rfl) T.B.len PySem.boot_len (pa_cons (pv 0) pa_nil)) pe_int (nomark _)) (pss_one (ps_ret pe_int)) pss_nil) (pss_cons ps_never (pss_cons ps_never (pss_one ps_never))), ?_⟩
    refine ⟨.ref p, rfl, p, _, rfl, .inl hS, rfl, _, rfl, iteTT ?_ (q H Ext.rfl')⟩
    rw [List.length_map, hE.1, hq.1]
    rfl
  | n + 1, hn => by
    have GD : FnOk P w K mg base CX0 (n + 1) T.dDet.f T.dDet.fd ["_law_rows"] (spDet K n) := ok_det T n (by omega)
    refine T.dDet.F.ok scDet (fun vs H Q E h => ?_) (fun cdv A outer s H vs Q E hr h => ?_)
    · obtain ⟨p, m, rfl, _⟩ := h
      rfl
    obtain ⟨p, m, rfl, ⟨as, hS, hE⟩, hq, hA, q⟩ := h
    refine ⟨_, pss_cons (ps_if (pt_cmpR op_eq (pe_callB call_len_seq (by rfl) T.B.len PySem.boot_len (pa_cons (pv 0) pa_nil)) pe_int (nomark _)) (pss_one (ps_ret pe_int)) pss_nil)
      (pss_cons (ps_set (i := 1) scDet.nd rfl (Or.inl rfl) pe_int)
      (pss_cons (ps_for PassesOwn.never rfl (pi_range1 (by rfl) T.B.range (pa_cons (pe_callB call_len_seq (by rfl) T.B.len PySem.boot_len (pa_cons (pv 0) pa_nil)) pa_nil)) (pg_name (i := 2) scDet.nd rfl (.inr rfl))
        (pss_one (ps_if (pt_cmpR op_ne (pe_ix ix_list (pe_ix ix_list (pv 0) (pv 2) (fun _ _ => rfl)) pe_int (fun _ _ => rfl)) pe_int (nomark _))
          (pss_cons (ps_setLc (i := 3) (own := [("_law_k", 4)]) (g := gName 4) rfl scDet.nd rfl rfl (sw_true rfl rfl rfl (by decide +kernel)) (pi_range1 (by rfl) T.B.range (pa_cons (pe_callB call_len_seq (by rfl) T.B.len PySem.boot_len (pa_cons (pv 0) pa_nil)) pa_nil)) (blkOk_by (N := ["_law_rows", "_law_found", "_law_i", "_law_rest", "_law_k"]) (sc := defScope sDet) (by decide +kernel))
            (fun _ _ _ _ _ => pg_name (i := 4) scDet.nd rfl (Or.inl rfl)) (fun _ _ _ _ _ => pts_one (pt_cmpR op_ne (pv 4) (pv 2) (nomark _)))
            (fun _ _ _ _ _ => pe_slice (r := rSlL K) sl_list (pe_ix (r := rIxL K) ix_list (pv 0) (pv 4) (fun _ _ => rfl)) (po_some pe_int) po_none))
          (pss_one (ps_set (i := 1) scDet.nd rfl (Or.inl rfl) (pe_op op_add (pv 1) (pe_op op_mul (pe_ifExp (pt_cmpR op_eq (pe_op op_mod (pe_callTy call_int1 (by rfl) T.B.int (by decide +kernel) (pa_cons (pv 2) pa_nil)) pe_int) pe_int (nomark _))
              (pe_ix ix_list (pe_ix ix_list (pv 0) (pv 2) (fun _ _ => rfl)) pe_int (fun _ _ => rfl)) (pe_un un_neg (pe_ix ix_list (pe_ix ix_list (pv 0) (pv 2) (fun _ _ => rfl)) pe_int (fun _ _ => rfl))))
              (pe_call GD hr (by rfl) T.dDet.g T.dDet.F.kp T.dDet.b .nil pass0 (pa_cons (pv 3) pa_nil)))))))
          pss_nil)))
      (pss_one (ps_ret (pv 1))))), ?_⟩
    have la : (refsV as).length = n + 1 := by rw [List.length_map, hE.1, hq.1]
    have e0 : (((n + 1 : Nat) : Int)).toNat = n + 1 := by omega
    refine ⟨.ref p, rfl, p, _, rfl, .inl hS, rfl, _, rfl, iteFF (decide_eq_false fun z => ?_) ?_⟩
    · have z2 := V.int.inj z
      rw [la] at z2
      omega
    refine ⟨.ref p, rfl, p, _, rfl, .inl hS, ((n + 1 : Nat) : Int), by rw [la], by omega, by omega, ?_⟩
    rw [e0]
    refine for_range (fun i σ H' => ∃ x2 x3, σ = [some (.ref p), some (.int (sumTo (fun i => sgnd m i * det n (rest (n + 1) m i)) i)), x2, x3, none] ∧ Ext H H') ⟨none, none, rfl, Ext.rfl'⟩ ?_ ?_
    · rintro i σ H1 hi ⟨x2, x3, rfl, e1⟩
      have ei : (0 : Int) + (i : Int) = ((i : Nat) : Int) := by omega
      rw [ei]
      obtain ⟨row, v, g1, g2, g3, g4⟩ := hq.at hi (Nat.succ_pos n)
      obtain ⟨ra, g5, g6⟩ := hE.get g1
      have hl : lead m i = v := g4
      have hS1 : SqL K H1 p (refsV as) := hS.ext e1
      have hR1 : SqL K H1 ra (intsV row) := g6.ext e1
      refine ⟨.ref p, rfl, .int (i : Int), rfl, p, _, _, _, rfl, rfl, hS1, atI_nat (ref_at g5), ra, _, 0, _, rfl, rfl, hR1, atI_nat (j := 0) (int_at g2), rfl, _, rfl, ?_⟩
      by_cases hv : v = 0
      · refine iteFF ?_ ⟨some (.int (i : Int)), x3, ?_, e1⟩
        · rw [hv]
          rfl
        · have hs0 : sgnd m i = 0 := by
            unfold sgnd
            rw [hl, hv]
            split <;> rfl
          show _ = [_, some (V.int (_ + sgnd m i * det n (rest (n + 1) m i))), _, _, _]
          rw [hs0, Int.zero_mul, Int.add_zero]
          rfl
      · refine iteTT ?_ ?_
        · show (!decide (V.int v = V.int 0)) = true
          rw [decide_eq_false fun z => hv (V.int.inj z)]
          rfl
        refine ⟨.ref p, rfl, p, _, rfl, .inl hS1, ((n + 1 : Nat) : Int), by rw [la], by omega, by omega, fun D hD => ?_⟩
        rw [e0]
        refine lc_range (fun k H' => Ext H1 H' ∧ k ≤ n + 1 ∧ ∃ acc : List Addr, H' D = some (.lst (refsV acc)) ∧ Each (fun p r => SqL K H' p (intsV r) ∧ p ≠ D) acc (((List.range k).filter fun k => decide (k ≠ i)).map fun k => (m.getD k []).drop 1) ∧ acc.length ≤ k)
          ⟨ext_new hD, Nat.zero_le _, [], upd_same, Each.nil, Nat.zero_le _⟩ ?_ ?_
        · rintro k H2 hk ⟨e2, _, acc, hacc, hEa, hla⟩
          have ek : (0 : Int) + (k : Int) = ((k : Nat) : Int) := by omega
          rw [ek]
          refine ⟨rfl, .int (k : Int), rfl, .int (i : Int), rfl, rfl, _, rfl, ?_⟩
          rw [List.range_succ, List.filter_append, List.map_append]
          by_cases hki : k = i
          · refine iteFF ?_ ⟨e2, hk, acc, hacc, ?_, by omega⟩
            · rw [hki, decide_eq_true rfl]
              rfl
            · rw [show [k].filter (fun k => decide (k ≠ i)) = [] from by simp only [List.filter, decide_eq_false (not_not_intro hki)], List.map_nil, List.append_nil]
              exact hEa
          · refine iteTT ?_ ?_
            · show (!decide (V.int (k : Int) = V.int (i : Int))) = true
              have hki2 : ¬ (V.int (k : Int) = V.int (i : Int)) := fun z => hki (by have z2 := V.int.inj z; omega)
              rw [decide_eq_false hki2]
              rfl
            have hk2 : k < m.length := by rw [hq.1]; exact hk
            have ek2 := List.getElem?_eq_getElem hk2
            obtain ⟨rb, h5, h6⟩ := hE.get ek2
            have egd : m.getD k [] = m[k] := by rw [List.getD_eq_getElem?_getD, ek2, Option.getD_some]
            refine ⟨.ref p, rfl, .int (k : Int), rfl, p, _, _, _, rfl, rfl, (hS1.ext e2), atI_nat (ref_at h5), _, rfl, rb, _, rfl, (h6.ext e1).ext e2, fun t ht => ?_⟩
            have ntD : t ≠ D := fun z => by
              rw [z, hacc] at ht
              cases ht
            have e3 : Ext H2 (upd H2 t (.lst (cutV (intsV m[k]) (some 1) none))) := ext_new ht
            obtain ⟨w1, w2, w3⟩ := push_ok (F := fun H a b => SqL K H a (intsV b) ∧ a ≠ D) (fun o a b z => ⟨sqL_ne z.2 z.1, z.2⟩) hD (e2.trans e3) (hEa.mono fun a b z => ⟨z.1.ext e3, z.2⟩) (r := (m.getD k []).drop 1) (t := t)
              ⟨by rw [cut_one, egd, drop_ints]; exact SqL.of upd_same, ntD⟩
            refine ⟨refsV acc, e3 _ _ hacc, ?_, w1, hk, acc ++ [t], w2, ?_, ?_⟩
            · rw [List.length_map]
              exact small1000 (by omega)
            · rw [show [k].filter (fun k => decide (k ≠ i)) = [k] from by simp only [List.filter, decide_eq_true hki]]
              exact w3
            · rw [List.length_append]
              exact Nat.add_le_add_right hla 1
        · rintro H2 ⟨e2, _, acc, hacc, hEa, hla⟩
          have hLR : LR K H2 D (rest (n + 1) m i) := ⟨acc, SqL.of hacc, hEa.mono fun _ _ z => z.1⟩
          have hS2 := hS1.ext e2
          have hR2 := hR1.ext e2
          have b64 : Small64 v := hA i row 0 v g1 g2
          have fin : ∀ x : Int, x = sgnd m i → Small64 x ∧ ∀ H', Ext H2 H' → ∃ x2 x3, [some (V.ref p), some (V.int (sumTo (fun i => sgnd m i * det n (rest (n + 1) m i)) i + x * det n (rest (n + 1) m i))), some (V.int (i : Int)), some (V.ref D), none] = [some (V.ref p), some (V.int (sumTo (fun i => sgnd m i * det n (rest (n + 1) m i)) (i + 1))), x2, x3, none] ∧ Ext H H' := fun x hx => by
            subst hx
            refine ⟨?_, fun H' e => ⟨_, _, rfl, (e1.trans e2).trans e⟩⟩
            unfold sgnd
            rw [hl]
            split
            · exact b64
            · exact ⟨by have := b64.2; omega, by have := b64.1; omega⟩
          refine ⟨_, rfl, .int (i : Int), rfl, .inl ⟨_, rfl, _, _, rfl, rfl, (by show (0 : Int) < 2; decide), rfl, _, rfl, ?_⟩⟩
          have ec : (((i : Nat) : Int) % 2 = 0) ↔ i % 2 = 0 := by omega
          by_cases hm : i % 2 = 0
          · have es : v = sgnd m i := by
              unfold sgnd
              rw [if_pos hm, hl]
            obtain ⟨f1, f2⟩ := fin v es
            refine iteTT (decide_eq_true (congrArg V.int (ec.mpr hm))) ?_
            exact ⟨.ref p, rfl, .int (i : Int), rfl, p, _, _, _, rfl, rfl, hS2, atI_nat (ref_at g5), ra, _, 0, _, rfl, rfl, hR2, atI_nat (j := 0) (int_at g2), .ref D, rfl, D, _, rfl, hLR, rest_sq (by omega) (by omega) hq, rest_all hq hA, fun H' e => ⟨_, _, rfl, rfl, .inl f1, _, _, rfl, rfl, f2 H' e⟩⟩
          · have es : -v = sgnd m i := by
              unfold sgnd
              rw [if_neg hm, hl]
            obtain ⟨f1, f2⟩ := fin (-v) es
            refine iteFF (decide_eq_false fun z => hm (ec.mp (V.int.inj z))) ?_
            exact ⟨.ref p, rfl, .int (i : Int), rfl, p, _, _, _, rfl, rfl, hS2, atI_nat (ref_at g5), ra, _, 0, _, rfl, rfl, hR2, atI_nat (j := 0) (int_at g2), _, rfl, .ref D, rfl, D, _, rfl, hLR, rest_sq (by omega) (by omega) hq, rest_all hq hA, fun H' e => ⟨_, _, rfl, rfl, .inl f1, _, _, rfl, rfl, f2 H' e⟩⟩
    · rintro σ H1 ⟨x2, x3, rfl, e1⟩
      exact ⟨_, rfl, q H1 e1⟩
/-! ### _law_cut -/
theorem scCut : FnScope ["_law_rows", "_law_lot", "_law_found", "_law_i", "_law_j"] ["_law_rows", "_law_lot"] (defScope sCut) := ⟨rfl, rfl, rfl, by decide +kernel, rfl, by decide +kernel, by decide +kernel⟩
def spCut (K : PySem.W.Frag) : Sp := fun vs H Q _ => ∃ (a l : Addr) (n : Nat) (m : List (List Int)) (ls : List Nat), vs = [.ref a, .ref l] ∧ TR K H a m ∧ Sq n m ∧ SqT K H l (natsV ls) ∧ (∀ k ∈ ls, k < n) ∧ ls.length ≤ 100 ∧ ∀ H' p, Ext H H' → LR K H' p (cutF (cell m) ls) → Q (.ref p) H'
theorem ok_cut (T : Tx K mg) : FnOk P w K mg base CX0 1 T.dCut.f T.dCut.fd ["_law_rows", "_law_lot"] (spCut K) := by
  refine T.dCut.F.ok scCut (fun vs H Q E h => ?_) (fun cdv A outer s H vs Q E hr h => ?_)
  · obtain ⟨a, l, n, m, ls, rfl, _⟩ := h
    rfl
  obtain ⟨a, l, n, m, ls, rfl, ⟨as, hS, hE⟩, hq, hl, hlt, hlen, q⟩ := h
  refine ⟨_, pss_cons (ps_set (i := 2) scCut.nd rfl (Or.inl rfl) (pe_lst pa_nil))
    (pss_cons (ps_for PassesOwn.never rfl (pi_tup (pv 1)) (pg_name (i := 3) scCut.nd rfl (.inr rfl))
      (pss_one (ps_expr (pe_bm PySem.F.plainAttrs_list PySem.F.slot_list_append PySem.F.type_list_append mt_append (pv 2) (pa_cons
        (pe_lc (own := [("_law_j", 4)]) (g := gName 4) (tt := tYes) rfl scCut.nd (pi_tup (pv 1)) (blkOk_by (N := ["_law_rows", "_law_lot", "_law_found", "_law_i", "_law_j"]) (sc := defScope sCut) (by decide +kernel))
          (fun _ _ _ _ _ => pg_name (i := 4) scCut.nd rfl (Or.inl rfl)) (fun _ _ _ _ _ => pts_nil)
          (fun _ _ _ _ _ => pe_ix (r := rIxT K) ix_tup (pe_ix (r := rIxT K) ix_tup (pv 0) (pv 3) (fun _ _ => rfl)) (pv 4) (fun _ _ => rfl))) pa_nil)))))
    (pss_one (ps_ret (pv 2)))), ?_⟩
  refine ⟨by decide, fun pf hpf => ?_⟩
  have ex : Ext H (upd H pf (.lst [])) := ext_new hpf
  refine ⟨.ref l, rfl, l, rfl, ⟨_, hl.ext ex⟩, for_tup (K := K) (a := l) (xs := natsV ls) (fun i σ H' => ∃ x3, σ = [some (.ref a), some (.ref l), some (.ref pf), x3, none] ∧ Ext H H' ∧ ∃ acc : List Addr, H' pf = some (.lst (refsV acc)) ∧
    Each (fun p r => SqL K H' p (intsV r) ∧ p ≠ pf) acc ((ls.take i).map fun i => ls.map fun j => cell m i j)) ⟨none, rfl, ex, [], upd_same, Each.nil⟩ ?_ ?_ ?_⟩
  · rintro i σ H' _ ⟨x3, rfl, e1, _⟩
    exact hl.ext e1
  · rintro i x σ H1 hx ⟨x3, rfl, e1, acc, hacc, hEa⟩
    obtain ⟨k, rfl, hk⟩ := get_nats hx
    have hkn : k < n := hlt k (List.mem_of_getElem? hk)
    refine ⟨.ref pf, rfl, .inl ⟨rfl, _, SqL.of hacc⟩, .ref l, rfl, l, rfl, ⟨_, hl.ext e1⟩, fun D hD => ?_⟩
    refine lc_tup (K := K) (a := l) (xs := natsV ls) (fun j H' => Ext H1 H' ∧ j ≤ ls.length ∧ H' D = some (.lst (intsV ((ls.take j).map fun j => cell m k j)))) ⟨ext_new hD, Nat.zero_le _, upd_same⟩ (fun j H' _ z => hl.ext (e1.trans z.1)) ?_ ?_
    · rintro j y H2 hy ⟨e2, _, hDj⟩
      obtain ⟨k2, rfl, hk2⟩ := get_nats hy
      have hj2 : j < ls.length := (List.getElem?_eq_some_iff.mp hk2).1
      have hkn2 : k2 < n := hlt k2 (List.mem_of_getElem? hk2)
      obtain ⟨row, v, g1, g2, g3, g4⟩ := hq.at hkn hkn2
      obtain ⟨ra, g5, g6⟩ := hE.get g1
      refine ⟨rfl, .ref a, rfl, .int (k : Int), rfl, a, _, _, _, rfl, rfl, hS.ext (e1.trans e2), atI_nat (ref_at g5), .int (k2 : Int), rfl, ra, _, _, _, rfl, rfl, g6.ext (e1.trans e2), atI_nat (int_at g2), _, hDj, ?_, ext_at hD e2, hj2, ?_⟩
      · rw [List.length_map, List.length_map, List.length_take]
        exact small1000 (by omega)
      · rw [upd_same, List.take_add_one, hk2, List.map_append, intsV, intsV, List.map_append]
        show _ = some (HO.lst (_ ++ [V.int (cell m k k2)]))
        rw [g4]
    · rintro H2 ⟨e2, _, hDj⟩
      rw [List.length_map, List.take_length] at hDj
      have nD : D ≠ pf := fun z => by
        rw [z, hacc] at hD
        cases hD
      refine ⟨pf, _, _, rfl, rfl, e2 _ _ hacc, ?_, ?_⟩
      · rw [List.length_map, hEa.1, List.length_map, List.length_take]
        exact small1000 (by omega)
      obtain ⟨w1, w2, w3⟩ := push_ok (F := fun H a b => SqL K H a (intsV b) ∧ a ≠ pf) (fun o a b z => ⟨sqL_ne z.2 z.1, z.2⟩) hpf (e1.trans e2) (hEa.mono fun a b z => ⟨z.1.ext e2, z.2⟩) (r := ls.map fun j => cell m k j) (t := D) ⟨SqL.of hDj, nD⟩
      refine ⟨_, rfl, w1, acc ++ [D], w2, ?_⟩
      rw [List.take_add_one, hk, List.map_append]
      exact w3
  · rintro σ H1 ⟨x3, rfl, e1, acc, hacc, hEa⟩
    rw [List.length_map, List.take_length] at hEa
    exact ⟨_, rfl, q H1 pf e1 ⟨acc, SqL.of hacc, hEa.mono fun _ _ z => z.1⟩⟩
end
end Ow
set_option Elab.async false
set_option linter.all false
set_option maxRecDepth 100000
namespace Ow
open PySem PySem.Spec PyProof.Rows L2
/-! ### a def with its code object -/
structure FunC (K : PySem.W.Frag) (x qual : Str) (st : Stmt) (f : Addr) (fd : FuncData) (c : Addr) : Prop where
  ex : ∃ (oc : Value) (od : Option Addr) (kV doc pm : Value) (an : Option Addr) (ct : Value) (osl : Array (Option Value)),
    fd = PySem.W.fnOf x qual (defArgs st) (defBody st) (defScope st) .none kV doc pm an (.ref c) ct ∧ K.lookup f = some ⟨oc, od, .func fd, osl⟩ ∧ PySem.W.codeIn K (.ref c) qual = true
  kp : PySem.W.keepIn K (.ref f) = true
def qualOf (q : Str) : Str := (envOfC q (defScope sLots) 0 0 .none).qual
abbrev qLam : Str := qualOf "_law_lots" ++ "<lambda>"
structure Lx (K : PySem.W.Frag) (mg : Str → Option Value) where
  f : Addr
  fd : FuncData
  c : Addr
  P : Addr
  F : FunC K "_law_lots" "_law_lots" sLots f fd c
  b : Binds K fd ["_law_many"] []
  g : mg "_law_lots" = some (.ref f)
/-- all but the tables stays, and our table is one -/
def ExtL (P : Addr) (H H' : Hp) : Prop := LamX.ExtN H H' ∧ LamX.TabS H' P qLam
theorem ExtL.of_ext {P : Addr} {H H' : Hp} (t : LamX.TabS H P qLam) (e : Ext H H') : ExtL P H H' := ⟨LamX.ExtN.of e, t.ext e⟩
theorem ExtL.trans {P : Addr} {H H1 H2 : Hp} (a : ExtL P H H1) (b : ExtL P H1 H2) : ExtL P H H2 := ⟨a.1.trans b.1, b.2⟩
theorem extN_TR {K : PySem.W.Frag} {H H' : Hp} {a : Addr} {m : List (List Int)} (e : LamX.ExtN H H') (h : TR K H a m) : TR K H' a m := by
  obtain ⟨as, h1, h2⟩ := h
  exact ⟨as, extN_sqT e h1, h2.mono fun _ _ z => extN_sqT e z⟩
theorem lots_small : ∀ n, n ≤ 4 → (lotsU n).length ≤ 16 ∧ ∀ l ∈ lotsU n, l.length ≤ 4 ∧ ∀ k ∈ l, k < n := by decide +kernel
theorem lotsS_small : ∀ n, n ≤ 4 → (lotsS n).length ≤ 16 ∧ ∀ l ∈ lotsS n, l ≠ [] ∧ l.length ≤ 4 ∧ ∀ k ∈ l, k < n := by decide +kernel
section
variable {P : Program} {w : World} {K : PySem.W.Frag} {mg : Str → Option Value} {base : Heap}
theorem FunC.ok {x qual : Str} {st : Stmt} {f c : Addr} {fd : FuncData} {N ps : List Str} {k : Nat} {sp : Sp} (F : FunC K x qual st f fd c) (S : FnScope N ps (defScope st)) (len : ∀ vs H Q E, sp vs H Q E → vs.length = ps.length)
    (hbody : ∀ (A : Around) (outer : List Env) (s : Shared) (H : Hp) (vs : List V) (Q : VK) (E : XK), Room k (A.deeper (envOfC qual (defScope st) s.heap.objs.size f (.ref c))) → sp vs H Q E →
      ∃ t, PSs (cxOf CX0 P w K mg base N qual (defScope st) f (.ref c) A outer s H E).nox (defBody st) t ∧ t { nx := fun _ H' => Q .non H', rt := Q } (L2.start N vs) H) : FnOk P w K mg base CX0 (k + 1) f fd ps sp := by
  obtain ⟨oc, od, kV, doc, pm, an, ct, osl, rfl, lk, hcd⟩ := F.ex
  refine fn_of lk hcd S len fun A outer s H vs Q E hr hsp => ?_
  obtain ⟨t, h, q⟩ := hbody A outer s H vs Q E hr hsp
  exact ⟨t, h.nox, q⟩
/-! ### _law_lots -/
theorem scLots : FnScope ["_law_many", "_law_found", "_law_k", "_law_lot"] ["_law_many"] (defScope sLots) := ⟨rfl, rfl, rfl, by decide +kernel, rfl, by decide +kernel, by decide +kernel⟩
def spLots (K : PySem.W.Frag) (Pt : Addr) : Sp := fun vs H Q _ => ∃ n : Nat, vs = [.int (n : Int)] ∧ 1 ≤ n ∧ n ≤ 4 ∧ LamX.TabS H Pt qLam ∧ ∀ H' p as, ExtL Pt H H' → SqL K H' p (refsV as) → EN K H' as ([] :: lotsS n) → Q (.ref p) H'
theorem ok_lots (T : Tx K mg) (L : Lx K mg) (TB : LamX.TabB base mg L.c L.P) : FnOk P w K mg base CX0 3 L.f L.fd ["_law_many"] (spLots K L.P) := by
  refine L.F.ok scLots (fun vs H Q E h => ?_) (fun A outer s H vs Q E hr h => ?_)
  · obtain ⟨n, rfl, _⟩ := h
    rfl
  obtain ⟨n, rfl, n1, n4, hT, q⟩ := h
  refine ⟨_, pss_cons (ps_set (i := 1) scLots.nd rfl (Or.inl rfl) (pe_lst (pa_cons (pe_tup pa_nil) pa_nil)))
    (pss_cons (ps_for PassesOwn.never rfl (pi_range1 (by rfl) T.B.range (pa_cons (pv 0) pa_nil)) (pg_name (i := 2) scLots.nd rfl (.inr rfl))
      (pss_one (ps_set (i := 1) scLots.nd rfl (Or.inl rfl) (pe_op op_cat (pv 1) (pe_lc (own := [("_law_lot", 3)]) (g := gName 3) (tt := tYes) rfl scLots.nd (pi_list (pv 1)) (blkOk_by (N := ["_law_many", "_law_found", "_law_k", "_law_lot"]) (sc := defScope sLots) (by decide +kernel))
          (fun _ _ _ _ _ => pg_name (i := 3) scLots.nd rfl (Or.inl rfl)) (fun _ _ _ _ _ => pts_nil) (fun _ _ _ _ _ => pe_op (r := rCatA K) op_catA (pv 3) (pe_tup (pa_cons (pv 2) pa_nil))))))))
    (pss_one (ps_ret (pe_sortLam (c := L.c) (P := L.P) (by rfl) T.B.srt T.B.len TB rfl hr ⟨rfl, rfl, rfl, by decide, by decide, rfl, rfl, rfl⟩ (pa_cons (pv 1) pa_nil) rfl (fun _ _ _ _ _ _ => rfl) (fun _ => rfl) (fun _ => rfl))))), ?_⟩
  refine ⟨by decide, fun t0 ht0 => ⟨by show 1 ≤ sizeLine; decide, fun pf hpf => ?_⟩⟩
  have e1 : Ext H (upd (upd H t0 (.tup [])) pf (.lst [.ref t0])) := (ext_new ht0).trans (ext_new hpf)
  have ht1 : upd (upd H t0 (.tup [])) pf (.lst [.ref t0]) t0 = some (.tup []) := ext_new hpf _ _ upd_same
  have hpf1 : upd (upd H t0 (.tup [])) pf (.lst [.ref t0]) pf = some (.lst [.ref t0]) := upd_same
  generalize upd (upd H t0 (.tup [])) pf (.lst [.ref t0]) = H1 at e1 ht1 hpf1 ⊢
  refine ⟨.int n, rfl, n, rfl, by omega, by omega, ?_⟩
  have e0 : ((n : Int)).toNat = n := by omega
  rw [e0]
  refine for_range (fun k σ H' => ∃ (pf : Addr) (x2 : Option V) (as : List Addr), σ = [some (.int n), some (.ref pf), x2, none] ∧ Ext H H' ∧ H' pf = some (.lst (refsV as)) ∧ EN K H' as (lotsU k)) ⟨pf, none, [t0], rfl, e1, hpf1, Each.nil.snoc (as := []) (bs := []) (SqT.of ht1)⟩ ?_ ?_
  · rintro k σ H2 hk ⟨p1, x2, as, rfl, e2, hp1, hE⟩
    have ls := lots_small k (by omega)
    have ek : (0 : Int) + (k : Int) = ((k : Nat) : Int) := by omega
    rw [ek]
    refine ⟨.ref p1, rfl, .ref p1, rfl, p1, rfl, ⟨_, SqL.of hp1⟩, fun D hD => ?_⟩
    refine lc_list (K := K) (a := p1) (xs := refsV as) (fun i H' => Ext H2 H' ∧ i ≤ 16 ∧ ∃ acc : List Addr, H' D = some (.lst (refsV acc)) ∧ EN K H' acc (((lotsU k).take i).map fun l => l ++ [k]) ∧ acc.length = i) ⟨ext_new hD, Nat.zero_le _, [], upd_same, Each.nil, rfl⟩ (fun i H' _ z => (SqL.of hp1).ext z.1) ?_ ?_
    · rintro i x H3 hx ⟨e3, _, acc, hacc, hEa, hla⟩
      obtain ⟨r1, rfl, hr1⟩ := get_refs hx
      obtain ⟨l, hl1, hl2⟩ := hE.get' hr1
      have hi16 : i < 16 := Nat.lt_of_lt_of_le (List.getElem?_eq_some_iff.mp hl1).1 ls.1
      have hT3 : SqT K H3 r1 (natsV l) := hl2.ext e3
      have l4 := (ls.2 l (List.mem_of_getElem? hl1)).1
      refine ⟨rfl, .ref r1, rfl, .int (k : Int), rfl, by show 1 ≤ sizeLine; decide, fun t ht => ?_⟩
      have e4 : Ext H3 (upd H3 t (.tup [.int (k : Int)])) := ext_new ht
      have hacc4 : upd H3 t (.tup [.int (k : Int)]) D = some (.lst (refsV acc)) := e4 _ _ hacc
      have et : natsV l ++ [V.int (k : Int)] = natsV (l ++ [k]) := by rw [natsV, natsV, List.map_append]; rfl
      have fin : ∀ (H' : Hp) (t2 : Addr), Ext (upd H3 t (.tup [.int (k : Int)])) H' → SqT K H' t2 (natsV (l ++ [k])) → ∃ acc, H' D = some (.lst acc) ∧ acc.length < sizeLine ∧ Ext H2 (upd H' D (.lst (acc ++ [.ref t2]))) ∧ i + 1 ≤ 16 ∧ ∃ acc2 : List Addr, upd H' D (.lst (acc ++ [.ref t2])) D = some (.lst (refsV acc2)) ∧
          EN K (upd H' D (.lst (acc ++ [.ref t2]))) acc2 (((lotsU k).take (i + 1)).map fun l => l ++ [k]) ∧ acc2.length = i + 1 := fun H' t2 e5 h2 => by
        have hacc5 := e5 _ _ hacc4
        obtain ⟨w1, w2, w3⟩ := push_ok (F := fun H a b => SqT K H a (natsV b)) (fun o a b z => sqT_at hacc5 z) hD ((e3.trans e4).trans e5) (hEa.mono fun a b z => z.ext (e4.trans e5)) (r := l ++ [k]) h2
        refine ⟨refsV acc, hacc5, ?_, w1, hi16, acc ++ [t2], w2, ?_, by rw [List.length_append, hla]; rfl⟩
        · rw [List.length_map]
          exact small1000 (by omega)
        · rw [List.take_add_one, hl1, List.map_append]
          exact w3
      refine ⟨r1, t, _, _, rfl, rfl, hT3.ext e4, SqT.of upd_same, ?_, fun h0 => ?_, (fun _ h0 => nomatch h0), fun _ _ p hp => ?_⟩
      · rw [List.length_map]
        show l.length + 1 ≤ sizeLine
        exact Nat.le_of_lt (small1000 (by omega))
      · have hl0 : l = [] := List.map_eq_nil_iff.mp h0
        exact fin _ t Ext.rfl' (by rw [hl0]; exact SqT.of upd_same)
      · refine fin _ p (ext_new hp) ?_
        rw [← et]
        exact SqT.of upd_same
    · rintro H3 ⟨e3, _, acc, hacc, hEa, hla⟩
      rw [List.length_map, hE.1, List.take_length] at hEa
      rw [List.length_map] at hla
      have l1 : as.length ≤ 16 := by rw [hE.1]; exact ls.1
      refine ⟨p1, D, _, _, rfl, rfl, e3 _ _ hp1, hacc, ?_, fun p2 hp2 => ?_⟩
      · rw [List.length_map, List.length_map, hla]
        exact Nat.le_of_lt (small1000 (by omega))
      have e4 : Ext H3 (upd H3 p2 (.lst (refsV as ++ refsV acc))) := ext_new hp2
      refine ⟨p2, _, as ++ acc, rfl, (e2.trans e3).trans e4, ?_, ?_⟩
      · rw [upd_same, refsV, refsV, refsV, List.map_append]
      · exact (EN.ext hE (e3.trans e4)).append (EN.ext hEa e4)
  · rintro σ H2 ⟨p1, x2, as, rfl, e2, hp1, hE⟩
    obtain ⟨bs, hb1, hb2, hb3⟩ := sort_zip hE
    have e5 : ∀ l : List (Addr × List Nat), (l.map fun p => V.ref p.1) = refsV (l.map Prod.fst) := fun l => by
      rw [refsV, List.map_map]
      rfl
    refine ⟨.ref p1, rfl, hT.ext e2, p1, bs, rfl, ?_, hb2, fun H3 p x1 x2 hp => ?_⟩
    · rw [e5, hb1]
      exact SqL.of hp1
    · rw [e5]
      rw [lots_sort n n1 n4] at hb3
      refine q _ p _ ⟨(LamX.ExtN.of e2).trans (x1.trans (LamX.ExtN.of (ext_new hp))), x2.ext (ext_new hp)⟩ (SqL.of upd_same) ?_
      exact hb3.mono fun a b z => (extN_sqT x1 z).ext (ext_new hp)
/-! ### _law_first_bad -/
theorem scFB : FnScope ["_law_rows", "_law_lot"] ["_law_rows"] (defScope sFB) := ⟨rfl, rfl, rfl, by decide +kernel, rfl, by decide +kernel, by decide +kernel⟩
def FBad (n : Nat) (m : List (List Int)) (v : V) : Prop := (v = .non ∧ ∀ l ∈ lotsU n, l ≠ [] → 0 < det l.length (cutF (cell m) l)) ∨ ∃ p, v = .ref p ∧ ∃ l ∈ lotsU n, l ≠ [] ∧ det l.length (cutF (cell m) l) ≤ 0
def spFB (K : PySem.W.Frag) (Pt : Addr) : Sp := fun vs H Q _ => ∃ (a : Addr) (n : Nat) (m : List (List Int)), vs = [.ref a] ∧ TR K H a m ∧ Sq n m ∧ 1 ≤ n ∧ n ≤ 4 ∧ All Small64 m ∧ LamX.TabS H Pt qLam ∧ ∀ H' v, ExtL Pt H H' → FBad n m v → Q v H'
theorem cutF_sq (s : Nat → Nat → Int) (l : List Nat) : Sq l.length (cutF s l) := by
  refine ⟨by unfold cutF; rw [List.length_map], fun i r h => ?_⟩
  unfold cutF at h
  obtain ⟨k, _, rfl⟩ := List.mem_map.mp (List.mem_of_getElem? h)
  rw [List.length_map]
theorem cell_small {m : List (List Int)} (h : All Small64 m) (i j : Nat) : Small64 (cell m i j) := by
  have z0 : Small64 0 := ⟨by decide, by decide⟩
  unfold cell
  rw [List.getD_eq_getElem?_getD, List.getD_eq_getElem?_getD]
  cases e : m[i]? with
  | none => exact z0
  | some r =>
    rw [Option.getD_some]
    cases e2 : r[j]? with
    | none => exact z0
    | some x => exact h i r j x e e2
theorem cutF_all {m : List (List Int)} (h : All Small64 m) (l : List Nat) : All Small64 (cutF (cell m) l) := fun i r j x hi hj => by
  unfold cutF at hi
  obtain ⟨k, _, rfl⟩ := List.mem_map.mp (List.mem_of_getElem? hi)
  obtain ⟨k2, _, rfl⟩ := List.mem_map.mp (List.mem_of_getElem? hj)
  exact cell_small h _ _
theorem ok_dets (T : Tx K mg) : FnOk P w K mg base CX0 5 T.dDet.f T.dDet.fd ["_law_rows"] (fun vs H Q E => ∃ n, n ≤ 4 ∧ spDet K n vs H Q E) :=
  ⟨fun vs H Q E ⟨n, hn, h⟩ => (ok_det (P := P) (w := w) (base := base) T n hn).len vs H Q E h, fun A outer s H args us vs Q E hr he hb hv ⟨n, hn, hs⟩ => ((ok_det T n hn).mono (by omega)).run A outer s H args us vs Q E hr he hb hv hs⟩
theorem ok_fb (T : Tx K mg) (L : Lx K mg) (TB : LamX.TabB base mg L.c L.P) : FnOk P w K mg base CX0 6 T.dFB.f T.dFB.fd ["_law_rows"] (spFB K L.P) := by
  have GL : FnOk P w K mg base CX0 3 L.f L.fd ["_law_many"] (spLots K L.P) := ok_lots T L TB
  have GC : FnOk P w K mg base CX0 1 T.dCut.f T.dCut.fd ["_law_rows", "_law_lot"] (spCut K) := ok_cut T
  have GD : FnOk P w K mg base CX0 5 T.dDet.f T.dDet.fd ["_law_rows"] (fun vs H Q E => ∃ n, n ≤ 4 ∧ spDet K n vs H Q E) := ok_dets T
  refine T.dFB.F.ok scFB (fun vs H Q E h => ?_) (fun cdv A outer s H vs Q E hr h => ?_)
  · obtain ⟨a, n, m, rfl, _⟩ := h
    rfl
  obtain ⟨a, n, m, rfl, hT, hq, n1, n4, hA, hP, q⟩ := h
  refine ⟨_, pss_cons (ps_for PassesOwn.never rfl (pi_list (pe_slice sl_list (pe_call GL (hr.mono (by decide)) (by rfl) L.g L.F.kp L.b .nil pass0 (pa_cons (pe_callB call_len_seq (by rfl) T.B.len PySem.boot_len (pa_cons (pv 0) pa_nil)) pa_nil)) (po_some pe_int) po_none)) (pg_name (i := 1) scFB.nd rfl (.inl rfl))
      (pss_one (ps_if (pt_cmpR op_le (pe_call GD hr (by rfl) T.dDet.g T.dDet.F.kp T.dDet.b .nil pass0 (pa_cons (pe_call GC (hr.mono (by decide)) (by rfl) T.dCut.g T.dCut.F.kp T.dCut.b .nil pass0 (pa_cons (pv 0) (pa_cons (pv 1) pa_nil))) pa_nil)) pe_int (nomark _)) (pss_one (ps_ret (pv 1))) pss_nil)))
    (pss_one (ps_ret pe_non)), ?_⟩
  obtain ⟨as, hS, hE⟩ := id hT
  have la : (refsV as).length = n := by rw [List.length_map, hE.1, hq.1]
  refine ⟨.ref a, rfl, a, _, rfl, .inr hS, n, by rw [la]; rfl, n1, n4, hP, fun H1 p ps e1 hp hps => ⟨_, rfl, p, _, rfl, hp, fun p2 hp2 => ⟨p2, rfl, ⟨_, SqL.of upd_same⟩, ?_⟩⟩⟩
  obtain ⟨p0, pt, rfl⟩ : ∃ p0 pt, ps = p0 :: pt := by
    cases ps with
    | nil => exact absurd hps.1 (by simp)
    | cons p0 pt => exact ⟨p0, pt, rfl⟩
  have hpt : EN K H1 pt (lotsS n) := ⟨by have := hps.1; simpa using this, fun i x y hx hy => hps.2 (i + 1) x y hx hy⟩
  have ec : cutV (refsV (p0 :: pt)) (some 1) none = refsV pt := by
    rw [cut_one]
    rfl
  rw [ec]
  have e2 : Ext H1 (upd H1 p2 (.lst (refsV pt))) := ext_new hp2
  have hp3 : upd H1 p2 (.lst (refsV pt)) p2 = some (.lst (refsV pt)) := upd_same
  have x2 : ExtL L.P H (upd H1 p2 (.lst (refsV pt))) := e1.trans (.of_ext e1.2 e2)
  have hpt2 := EN.ext hpt e2
  generalize upd H1 p2 (.lst (refsV pt)) = H2 at hp3 x2 hpt2 ⊢
  refine for_list (K := K) (a := p2) (xs := refsV pt) (fun i σ H' => ∃ x1, σ = [some (.ref a), x1] ∧ Ext H2 H' ∧ ∀ l ∈ (lotsS n).take i, 0 < det l.length (cutF (cell m) l)) ⟨none, rfl, Ext.rfl', fun l hl => by simp at hl⟩ ?_ ?_ ?_
  · rintro i σ H' _ ⟨x1, rfl, e3, _⟩
    exact (SqL.of hp3).ext e3
  · rintro i x σ H' hx ⟨x1, rfl, e3, hf⟩
    obtain ⟨r1, rfl, hr1⟩ := get_refs hx
    obtain ⟨l, hl2, hl3⟩ := hpt2.get' hr1
    have hmem := List.mem_of_getElem? hl2
    obtain ⟨g1, g2, g3⟩ := (lotsS_small n n4).2 l hmem
    have hmU : l ∈ lotsU n := (lots_perm n n1 n4).mem_iff.mp (List.mem_cons_of_mem _ hmem)
    refine ⟨.ref a, rfl, .ref r1, rfl, a, r1, n, m, l, rfl, (extN_TR x2.1 hT).ext e3, hq, hl3.ext e3, g3, by omega, fun H3 pc e4 hpc => ?_⟩
    refine ⟨l.length, g2, pc, _, rfl, hpc, cutF_sq _ _, cutF_all hA l, fun H4 e5 => ⟨_, _, rfl, rfl, _, rfl, ?_⟩⟩
    by_cases hd : det l.length (cutF (cell m) l) ≤ 0
    · refine iteTT (decide_eq_true hd) ⟨_, rfl, q H4 _ (x2.trans (.of_ext x2.2 ((e3.trans e4).trans e5))) (.inr ⟨r1, rfl, l, hmU, g1, hd⟩)⟩
    · refine iteFF (decide_eq_false hd) ⟨_, rfl, (e3.trans e4).trans e5, fun l2 hl4 => ?_⟩
      rw [List.take_add_one, hl2] at hl4
      rcases List.mem_append.mp hl4 with z | z
      · exact hf l2 z
      · rw [List.mem_singleton.mp z]
        omega
  · rintro σ H' ⟨x1, rfl, e3, hf⟩
    rw [List.length_map, hpt.1, List.take_length] at hf
    refine q H' _ (x2.trans (.of_ext x2.2 e3)) (.inl ⟨rfl, fun l hl hne => ?_⟩)
    rcases List.mem_cons.mp ((lots_perm n n1 n4).mem_iff.mpr hl) with z | z
    · exact absurd z hne
    · exact hf l z
end
end Ow
set_option Elab.async false
set_option linter.all false
set_option maxRecDepth 100000
namespace Ow
open PySem PySem.Spec PyProof.Rows L2
/-! ### the plain law -/
theorem cell_out {n : Nat} {m : List (List Int)} (h : Sq n m) {i j : Nat} (o : ¬ (i < n ∧ j < n)) : cell m i j = 0 := by
  unfold cell
  rw [List.getD_eq_getElem?_getD, List.getD_eq_getElem?_getD]
  cases e : m[i]? with
  | none => rfl
  | some r =>
    rw [Option.getD_some]
    cases e2 : r[j]? with
    | none => rfl
    | some x =>
      refine absurd ⟨?_, ?_⟩ o
      · rw [← h.1]
        exact (List.getElem?_eq_some_iff.mp e).1
      · rw [← h.2 i r e]
        exact (List.getElem?_eq_some_iff.mp e2).1
theorem B_cases {x : Int} (h : B x) : x = -1 ∨ x = 0 ∨ x = 1 := by
  obtain ⟨h1, h2⟩ := h
  omega
theorem fill_small {s m : List (List Int)} {n : Nat} (hB : All B s) (h : RowsP (Fill s) n n m) : All Small64 m := h.all fun i j x ⟨q, q1, q2, e⟩ => by
  rcases B_cases (cell_B hB i j) with z | z | z <;> rw [z] at e <;> refine ⟨?_, ?_⟩ <;> omega
theorem bad_scaled {n : Nat} {s m : List (List Int)} (hs : Sq n s) (hm : Sq n m) (h : ∀ i j, i < n → j < n → ∃ q : Int, 0 < q ∧ cell m i j = cell s i j * q) (r : List Nat) : isBad (cell m) r = isBad (cell s) r := by
  have h2 : ∀ i j, ∃ q : Int, 0 < q ∧ cell m i j = cell s i j * q := fun i j => by
    by_cases o : i < n ∧ j < n
    · exact h i j o.1 o.2
    · exact ⟨1, by decide, by rw [cell_out hs o, cell_out hm o]; rfl⟩
  have e : cell m = fun i j => cell s i j * (Classical.choose (h2 i j)) := by
    funext i j
    exact (Classical.choose_spec (h2 i j)).2
  rw [e]
  exact isBad_mul (cell s) (fun i j => Classical.choose (h2 i j)) (fun i j => (Classical.choose_spec (h2 i j)).1) r
theorem rows_cell {R : Nat → Nat → Int → Prop} {n : Nat} {m : List (List Int)} (h : RowsP R n n m) {i j : Nat} (hi : i < n) (hj : j < n) : R i j (cell m i j) := by
  obtain ⟨r, x, h1, h2, _, h4⟩ := h.sq.at hi hj
  rw [h4]
  exact (h.2 i r h1).2 j x h2
theorem none_good {n : Nat} {s : List (List Int)} (h : (rings n).find? (isBad (cell s)) = none) : ∀ r ∈ rings n, isBad (cell s) r = false := fun r hr => by
  have z := List.find?_eq_none.mp h r hr
  simpa using z
/-- all signs good: all filled tables are good -/
theorem filled_none {n : Nat} {s m : List (List Int)} (n1 : 1 ≤ n) (n4 : n ≤ 4) (hs : Sq n s) (h : (rings n).find? (isBad (cell s)) = none) (hm : RowsP (Fill s) n n m) {v : V} (hv : FBad n m v) : v = .non := by
  rcases hv with hv | ⟨p, _, l, hl, hne, hd⟩
  · exact hv.1
  · have g := good_lots n1 n4 (m := cell m) (fun r hr => by
      rw [bad_scaled hs hm.sq (fun i j hi hj => by
        obtain ⟨q, q1, _, e⟩ := rows_cell hm hi hj
        exact ⟨q, by omega, e⟩) r]
      exact none_good h r hr) l hl hne
    exact absurd hd (by omega)
/-- the told table is bad -/
theorem told_bad {n : Nat} {s : List (List Int)} {r : List Nat} (n1 : 1 ≤ n) (n4 : n ≤ 4) (hB : All B s) (h : (rings n).find? (isBad (cell s)) = some r) {v : V} (hv : FBad n (fillM n s r) v) : v ≠ .non := by
  obtain ⟨l, hl, hne, hd⟩ := bad_lots n1 n4 (s := cell s) (fun i j => cell_B hB i j) (List.mem_of_find?_eq_some h) (List.find?_some h)
  have hlt := ((lots_small n n4).2 l hl).2
  have e : cutF (cell (fillM n s r)) l = cutF (fillF (cell s) r) l := by
    unfold cutF
    refine List.map_congr_left fun i hi => List.map_congr_left fun j hj => ?_
    exact mat_cell (hlt i hi) (hlt j hj)
  rcases hv with ⟨rfl, g⟩ | ⟨p, rfl, _⟩
  · have z := g l hl hne
    rw [e] at z
    exact absurd hd (by omega)
  · exact fun z => by cases z
theorem sq_mat {n : Nat} {s : List (List Int)} (h : Sq n s) : s = mat n (cell s) := by
  refine List.ext_getElem? fun i => ?_
  by_cases hi : i < n
  · have hi2 : i < s.length := by rw [h.1]; exact hi
    have e1 := List.getElem?_eq_getElem hi2
    unfold mat
    rw [e1, List.getElem?_map, List.getElem?_range hi]
    show some s[i] = some ((List.range n).map (cell s i))
    refine congrArg some (List.ext_getElem? fun j => ?_)
    have lr := h.2 i _ e1
    by_cases hj : j < n
    · have hj2 : j < s[i].length := by rw [lr]; exact hj
      have e2 := List.getElem?_eq_getElem hj2
      rw [e2, List.getElem?_map, List.getElem?_range hj]
      exact congrArg some (cell_at e1 e2).symm
    · rw [List.getElem?_eq_none (by rw [lr]; omega), List.getElem?_eq_none (by rw [List.length_map, List.length_range]; omega)]
  · rw [List.getElem?_eq_none (by rw [h.1]; omega), List.getElem?_eq_none (by unfold mat; rw [List.length_map, List.length_range]; omega)]
def sgnM (m : List (List Int)) : List (List Int) := m.map fun r => r.map sgnI
theorem sgnM_mat (n : Nat) (f : Nat → Nat → Int) : sgnM (mat n f) = mat n fun i j => sgnI (f i j) := by
  unfold sgnM mat
  rw [List.map_map]
  refine List.map_congr_left fun i _ => ?_
  show ((List.range n).map (f i)).map sgnI = _
  rw [List.map_map]
  rfl
theorem sgn_told {n : Nat} {s : List (List Int)} {r : List Nat} (hs : Sq n s) (hB : All B s) : sgnM (fillM n s r) = s := by
  unfold fillM
  rw [sgnM_mat]
  have e : (fun i j => sgnI (fillF (cell s) r i j)) = cell s := by
    funext i j
    unfold fillF
    rcases B_cases (cell_B hB i j) with z | z | z <;> rw [z] <;> split <;> rfl
  rw [e, ← sq_mat hs]
theorem sgnM_sq {n : Nat} {m : List (List Int)} (h : Sq n m) : Sq n (sgnM m) := by
  rw [sq_mat h, sgnM_mat]
  exact mat_sq _ _
theorem sgn_B (x : Int) : B (sgnI x) := by
  unfold sgnI
  split
  · exact B_one
  · split
    · exact ⟨by decide, by decide⟩
    · exact B_zero
theorem sgnM_B {n : Nat} {m : List (List Int)} (h : Sq n m) : All B (sgnM m) := by
  rw [sq_mat h, sgnM_mat]
  exact mat_all fun i j _ _ => sgn_B _
theorem sgn_scale (x : Int) : ∃ q : Int, 0 < q ∧ x = sgnI x * q := by
  unfold sgnI
  by_cases h : 0 < x
  · exact ⟨x, h, by rw [if_pos h]; omega⟩
  · rw [if_neg h]
    by_cases g : x < 0
    · exact ⟨-x, by omega, by rw [if_pos g]; omega⟩
    · exact ⟨1, by decide, by rw [if_neg g]; omega⟩
/-- signs that are good, and so is each table with them -/
theorem grid_good {n : Nat} {m : List (List Int)} (n1 : 1 ≤ n) (n4 : n ≤ 4) (hm : Sq n m) (h : (rings n).find? (isBad (cell (sgnM m))) = none) {v : V} (hv : FBad n m v) : v = .non := by
  rcases hv with hv | ⟨p, _, l, hl, hne, hd⟩
  · exact hv.1
  · have g := good_lots n1 n4 (m := cell m) (fun r hr => by
      rw [bad_scaled (sgnM_sq hm) hm (fun i j hi hj => by
        have e : cell (sgnM m) i j = sgnI (cell m i j) := by
          have z : sgnM m = mat n fun i j => sgnI (cell m i j) := (congrArg sgnM (sq_mat hm)).trans (sgnM_mat _ _)
          rw [z]
          exact mat_cell hi hj
        rw [e]
        exact sgn_scale _) r]
      exact none_good h r hr) l hl hne
    exact absurd hd (by omega)
end Ow
set_option Elab.async false
set_option linter.all false
set_option maxRecDepth 100000
namespace Ow
open PySem PySem.Spec PyProof.Rows L2
/-! ### what the law's loop keeps: all but the can and the tables -/
def RC (c P : Addr) (H H' : Hp) : Prop := (∀ b o, b ≠ c → H b = some o → (∀ ps, o ≠ .tbl ps) → H' b = some o) ∧ CanAt H' c ∧ LamX.TabS H' P qLam
section
variable {K : PySem.W.Frag} {c P : Addr} {H H' H1 H2 : Hp}
theorem RC.of_ext (hc : CanAt H c) (ht : LamX.TabS H P qLam) (e : Ext H H') : RC c P H H' := ⟨fun b o _ z _ => e _ _ z, (Sip.of_ext hc e).2, ht.ext e⟩
theorem RC.of_L (hc : CanAt H c) (e : ExtL P H H') : RC c P H H' := by
  refine ⟨fun b o _ z n => e.1 _ _ z n, ?_, e.2⟩
  obtain ⟨x, y, k, z⟩ := hc
  exact ⟨x, y, k, e.1 _ _ z fun ps w => by cases w⟩
theorem RC.of_sip (hc : CanAt H c) (ht : LamX.TabS H P qLam) (s : Sip c H H') : RC c P H H' := by
  refine ⟨fun b o n z _ => s.1 _ _ n z, s.2, ?_⟩
  obtain ⟨ps, h1, h2, h3⟩ := ht
  refine ⟨ps, s.at h1 hc (fun _ _ _ w => by cases w), h2, fun pos cv h => ?_⟩
  obtain ⟨c2, e1, e2⟩ := h3 pos cv h
  refine ⟨c2, e1, s.at e2 hc fun _ _ _ w => ?_⟩
  unfold LamX.CodeO at w
  cases w
theorem RC.trans (a : RC c P H H1) (b : RC c P H1 H2) : RC c P H H2 := ⟨fun x o n z t => b.1 _ _ n (a.1 _ _ n z t) t, b.2⟩
theorem RC.ext (a : RC c P H H1) (e : Ext H1 H2) : RC c P H H2 := a.trans (.of_ext a.2.1 a.2.2 e)
theorem RC.at {b : Addr} {o : HO} (r : RC c P H H') (hc : CanAt H c) (hb : H b = some o) (h1 : ∀ ps, o ≠ .tbl ps) (h2 : ∀ xs, o ≠ .lst xs) : H' b = some o := by
  refine r.1 _ _ (fun w => ?_) hb h1
  obtain ⟨x, y, k, z⟩ := hc
  rw [w, z] at hb
  exact h2 _ (Option.some.inj hb).symm
theorem rc_sqT {a : Addr} {xs : List V} (r : RC c P H H') (hc : CanAt H c) (z : SqT K H a xs) : SqT K H' a xs := by
  rcases z with (z | ⟨o, z⟩) | z
  · exact .inl (.inl (r.at hc z (fun _ w => by cases w) fun _ w => by cases w))
  · exact .inl (.inr ⟨o, r.at hc z (fun _ w => by cases w) fun _ w => by cases w⟩)
  · exact .inr z
theorem rc_TR {a : Addr} {m : List (List Int)} (r : RC c P H H') (hc : CanAt H c) (z : TR K H a m) : TR K H' a m := by
  obtain ⟨as, z1, z2⟩ := z
  exact ⟨as, rc_sqT r hc z1, z2.mono fun _ _ w => rc_sqT r hc w⟩
/-- the told table -/
def TOLD (K : PySem.W.Frag) (C : Addr) (n : Nat) (s : List (List Int)) (v : V) (H : Hp) : Prop := match (rings n).find? (isBad (cell s)) with
  | none => v = .non
  | some r => ∃ t dx b, v = .ref t ∧ H t = some (.ins C dx [("rows", .ref b)]) ∧ TR K H b (fillM n s r)
theorem rc_told {C : Addr} {n : Nat} {s : List (List Int)} {v : V} (r : RC c P H H') (hc : CanAt H c) (z : TOLD K C n s v H) : TOLD K C n s v H' := by
  unfold TOLD at z ⊢
  cases e : (rings n).find? (isBad (cell s)) with
  | none =>
    rw [e] at z
    exact z
  | some r2 =>
    rw [e] at z
    obtain ⟨t, dx, b, h1, h2, h3⟩ := z
    exact ⟨t, dx, b, h1, r.at hc h2 (fun _ w => by cases w) (fun _ w => by cases w), rc_TR r hc h3⟩
end
theorem told_small {n : Nat} {s : List (List Int)} {r : List Nat} (hB : All B s) : All Small64 (fillM n s r) := mat_all fun i j _ _ => by
  unfold fillF
  obtain ⟨z1, z2⟩ := cell_B hB i j
  split <;> constructor <;> omega
section
variable {P : Program} {w : World} {K : PySem.W.Frag} {mg : Str → Option Value} {base : Heap}
theorem kb_signs (T : Tx K mg) : KBn K T.dBadT.fd ["signs"] 0 ["signs"] (fun _ ws => ws) fun _ zs => zs := by
  refine ⟨fun s us ws _ hu hw => ?_, fun _ z => z⟩
  obtain ⟨oc, od, kV, doc, pm, an, cdv, ct, osl, e, lk, hcd⟩ := T.dBadT.F.ex
  obtain rfl : us = [] := List.length_eq_zero_iff.mp hu
  obtain ⟨u, rfl⟩ : ∃ u, ws = [u] := by
    match ws, hw with
    | [u], _ => exact ⟨u, rfl⟩
  rw [e]
  exact .of_eq rfl
abbrev nRight : List Str := ["_law_can_here", "_law_turn", "_law_signs_here", "_law_due", "_law_told", "_law_k", "_law_rows", "_law_found", "_law_row", "_law_one"]
theorem scRight : FnScope nRight ["_law_can_here"] (defScope sRight) := ⟨rfl, rfl, rfl, by decide +kernel, rfl, by decide +kernel, by decide +kernel⟩
def spRight (Pt : Addr) : Sp := fun vs H Q _ => ∃ c : Addr, vs = [.ref c] ∧ CanAt H c ∧ LamX.TabS H Pt qLam ∧ ∀ H', RC c Pt H H' → Q (.bl true) H'
theorem ok_right (T : Tx K mg) (L : Lx K mg) (TB : LamX.TabB base mg L.c L.P) : FnOk P w K mg base CX0 8 T.dRight.f T.dRight.fd ["_law_can_here"] (spRight L.P) := by
  have GSg : FnOk P w K mg base CX0 3 T.dSigns.f T.dSigns.fd ["_law_can_here"] (spSigns K) := ok_signs T
  have GA : FnOk P w K mg base CX0 7 T.dAlways.f T.dAlways.fd ["signs"] (spAlways K) := ok_always T
  have GB : FnOk P w K mg base CX0 7 T.dBadT.f T.dBadT.fd ["signs"] (spBadT K T.tC) := ok_badT T
  have GF : FnOk P w K mg base CX0 3 T.dFilled.f T.dFilled.fd ["_law_can_here", "_law_signs_here"] (spFilled K) := ok_filled T
  have GX : FnOk P w K mg base CX0 6 T.dFB.f T.dFB.fd ["_law_rows"] (spFB K L.P) := ok_fb T L TB
  have GG : FnOk P w K mg base CX0 3 T.dGrid.f T.dGrid.fd ["_law_can_here", "_law_most", "_law_wide"] (spGrid K) := ok_grid T
  have GN : FnOk P w K mg base CX0 1 T.dSign.f T.dSign.fd ["_law_number_here"] spSign := ok_sign T
  have GE : FnOk P w K mg base CX0 1 T.fE T.fdE ["self", "other"] (spEq (RT K T.tC)) := ok_tabE T
  refine T.dRight.F.ok scRight (fun vs H Q E h => ?_) (fun cdv A outer s H vs Q E hr h => ?_)
  · obtain ⟨c, rfl, _⟩ := h
    rfl
  obtain ⟨c, rfl, hc, hP, q⟩ := h
  refine ⟨_, pss_cons (ps_for PassesOwn.never rfl (pi_range1 (by rfl) T.B.range (pa_cons pe_int pa_nil)) (pg_name (i := 1) scRight.nd rfl (.inl rfl))
      (pss_cons (ps_set (i := 2) scRight.nd rfl (Or.inl rfl) (pe_call GSg (hr.mono (by decide)) (by rfl) T.dSigns.g T.dSigns.F.kp T.dSigns.b .nil pass0 (pa_cons (pv 0) pa_nil)))
      (C8.pss_cut (ps_par (i := 3) (j := 4) rfl scRight.nd rfl rfl (by decide) rfl rfl (pa_cons (pe_call GA hr (by rfl) T.dAlways.g T.dAlways.F.kp T.dAlways.b .nil pass0 (pa_cons (pv 2) pa_nil)) (pa_cons (pe_callKw GB hr (by rfl) T.dBadT.g T.dBadT.F.kp (kb_signs T) pass0 (pk_cons (pv 2) pk_nil)) pa_nil)) rfl)
      (C8.pss_cut (ps_for PassesOwn.never rfl (pi_range1 (by rfl) T.B.range (pa_cons pe_int pa_nil)) (pg_name (i := 5) scRight.nd rfl (.inl rfl))
          (pss_cons (ps_set (i := 6) scRight.nd rfl (Or.inl rfl) (pe_call GF (hr.mono (by decide)) (by rfl) T.dFilled.g T.dFilled.F.kp T.dFilled.b .nil pass0 (pa_cons (pv 0) (pa_cons (pv 2) pa_nil))))
          (pss_one (ps_if (PW.pt (pw_and (pt_val (pv 3)) (pw_and1 (pt_cmpR op_notN (pe_call GX (hr.mono (by decide)) (by rfl) T.dFB.g T.dFB.F.kp T.dFB.b .nil pass0 (pa_cons (pv 6) pa_nil)) pe_non (nomark _))))) (pss_one (ps_ret pe_bl)) pss_nil))))
      (C8.pss_cut (ps_if (PW.pt (pw_and (pt_val (pv 3)) (pw_and1 (pt_cmpR op_notN (pv 4) pe_non (nomark _))))) (pss_one (ps_ret pe_bl)) pss_nil)
      (C8.pss_cut (ps_if (pt_not (pt_val (pv 3)))
          (pss_cons (ps_if (PW.pt (pw_or (pt_not (pt_val (pe_callB (C8.call_isC T.iT) (by rfl) T.B.isi boot_isinstance (pa_cons (pv 4) (pa_cons (pe_glob (v := .ref T.tC) (by rfl) T.gT rfl) pa_nil)))))
              (pw_or (pt_cmpR op_isN (pe_call GX (hr.mono (by decide)) (by rfl) T.dFB.g T.dFB.F.kp T.dFB.b .nil pass0 (pa_cons (pe_fld (pv 4) rfl) pa_nil)) pe_non (nomark _))
              (pw_or1 (pt_cmpR (op_neOwn GE (hr.mono (by decide)) T.eqT T.neT T.iT.hm T.fnE T.bE pass0) (pe_call GB hr (by rfl) T.dBadT.g T.dBadT.F.kp T.dBadT.b .nil pass0 (pa_cons (pv 2) pa_nil)) (pv 4) (nomark _)))))) (pss_one (ps_ret pe_bl)) pss_nil)
          (pss_cons (ps_set (i := 7) scRight.nd rfl (Or.inl rfl) (pe_lst pa_nil))
          (pss_cons (ps_for PassesOwn.never rfl (pi_tup (pe_fld (pv 4) rfl)) (pg_name (i := 8) scRight.nd rfl (.inl rfl))
              (pss_one (ps_expr (pe_bm PySem.F.plainAttrs_list PySem.F.slot_list_append PySem.F.type_list_append mt_append (pv 7) (pa_cons (pe_tupleOf (by rfl) T.B.tup
                (pe_lc (own := [("_law_one", 9)]) (g := gName 9) (tt := tYes) rfl scRight.nd (pi_tup (pv 8)) (blkOk_by (N := nRight) (sc := defScope sRight) (by decide +kernel))
                  (fun _ _ _ _ _ => pg_name (i := 9) scRight.nd rfl (Or.inl rfl)) (fun _ _ _ _ _ => pts_nil) (fun _ _ _ _ _ => pe_call GN (hr.mono (by decide)) (by rfl) T.dSign.g T.dSign.F.kp T.dSign.b .nil pass0 (pa_cons (pv 9) pa_nil)))) pa_nil)))))
          (pss_one (ps_if (pt_cmpR (op_neD hr.units) (pe_tupleOf (by rfl) T.B.tup (pv 7)) (pv 2) (nomark _)) (pss_one (ps_ret pe_bl)) pss_nil))))) pss_nil)
      (pss_cons (ps_set (i := 6) scRight.nd rfl (Or.inl rfl) (pe_call GG (hr.mono (by decide)) (by rfl) T.dGrid.g T.dGrid.F.kp T.dGrid.b .nil pass0 (pa_cons (pv 0) (pa_cons pe_int (pa_cons pe_int pa_nil)))))
      (pss_cons (ps_set (i := 7) scRight.nd rfl (Or.inl rfl) (pe_lst pa_nil))
      (pss_cons (ps_for PassesOwn.never rfl (pi_tup (pv 6)) (pg_name (i := 8) scRight.nd rfl (.inl rfl))
              (pss_one (ps_expr (pe_bm PySem.F.plainAttrs_list PySem.F.slot_list_append PySem.F.type_list_append mt_append (pv 7) (pa_cons (pe_tupleOf (by rfl) T.B.tup
                (pe_lc (own := [("_law_one", 9)]) (g := gName 9) (tt := tYes) rfl scRight.nd (pi_tup (pv 8)) (blkOk_by (N := nRight) (sc := defScope sRight) (by decide +kernel))
                  (fun _ _ _ _ _ => pg_name (i := 9) scRight.nd rfl (Or.inl rfl)) (fun _ _ _ _ _ => pts_nil) (fun _ _ _ _ _ => pe_call GN (hr.mono (by decide)) (by rfl) T.dSign.g T.dSign.F.kp T.dSign.b .nil pass0 (pa_cons (pv 9) pa_nil)))) pa_nil)))))
      (pss_one (ps_if (PW.pt (pw_and (pt_cmpR op_notN (pe_call GX (hr.mono (by decide)) (by rfl) T.dFB.g T.dFB.F.kp T.dFB.b .nil pass0 (pa_cons (pv 6) pa_nil)) pe_non (nomark _)) (pw_and1 (pt_val (pe_call GA hr (by rfl) T.dAlways.g T.dAlways.F.kp T.dAlways.b .nil pass0 (pa_cons (pe_tupleOf (by rfl) T.B.tup (pv 7)) pa_nil)))))) (pss_one (ps_ret pe_bl)) pss_nil)))))))))))
    (pss_one (ps_ret pe_bl)), ?_⟩
  refine ⟨6, rfl, by decide, by decide, for_range (n := 6) (fun i σ H' => ∃ x1 x2 x3 x4 x5 x6 x7 x8, σ = [some (.ref c), x1, x2, x3, x4, x5, x6, x7, x8, none] ∧ RC c L.P H H') ⟨_, _, _, _, _, _, _, _, rfl, .of_ext hc hP Ext.rfl'⟩ ?_ ?_⟩
  case' refine_2 => 
    rintro σ H' ⟨x1, x2, x3, x4, x5, x6, x7, x8, rfl, rc⟩
    exact q H' rc
  rintro i σ H1 hi ⟨x1, x2, x3, x4, x5, x6, x7, x8, rfl, rc1⟩
  -- the signs
  refine ⟨.ref c, rfl, c, rfl, rc1.2.1, fun H2 a n s s2 hT hq n1 n4 hA => ?_⟩
  have rc2 : RC c L.P H H2 := rc1.trans (.of_sip rc1.2.1 rc1.2.2 s2)
  -- due, told
  refine ⟨fun σ H' => ∃ v, σ = [some (.ref c), some (.int (0 + (i : Int))), some (.ref a), some (.bl ((rings n).find? (isBad (cell s))).isNone), some v, x5, x6, x7, x8, none] ∧ RC c L.P H H' ∧ TR K H' a s ∧ TOLD K T.tC n s v H', ?_, ?_⟩
  · refine ⟨.ref a, rfl, a, n, s, rfl, hT, hq, n1, n4, hA, fun H3 e3 => ?_⟩
    refine ⟨.ref a, rfl, rfl, rfl, a, n, s, rfl, hT.ext e3, hq, n1, n4, hA, fun hf H4 e4 => ⟨_, _, rfl, .non, rfl, rc2.ext (e3.trans e4), hT.ext (e3.trans e4), ?_⟩, fun r hf H4 t dx b e4 h1 h2 => ⟨_, _, rfl, .ref t, rfl, rc2.ext (e3.trans e4), hT.ext (e3.trans e4), ?_⟩⟩
    · unfold TOLD
      rw [hf]
    · unfold TOLD
      rw [hf]
      exact ⟨t, dx, b, rfl, h1, h2⟩
  clear hT rc2 s2
  rintro σ H3 ⟨v, rfl, rc3, hT3, hV3⟩
  -- the filled tables
  refine ⟨fun σ H' => ∃ x5 x6, σ = [some (.ref c), some (.int (0 + (i : Int))), some (.ref a), some (.bl ((rings n).find? (isBad (cell s))).isNone), some v, x5, x6, x7, x8, none] ∧ RC c L.P H H' ∧ TR K H' a s ∧ TOLD K T.tC n s v H', ?_, ?_⟩
  · refine ⟨6, rfl, by decide, by decide, for_range (n := 6) (fun k σ H' => ∃ x5 x6, σ = [some (.ref c), some (.int (0 + (i : Int))), some (.ref a), some (.bl ((rings n).find? (isBad (cell s))).isNone), some v, x5, x6, x7, x8, none] ∧ RC c L.P H H' ∧ TR K H' a s ∧ TOLD K T.tC n s v H') ⟨_, _, rfl, rc3, hT3, hV3⟩ ?_ (fun σ H' z => z)⟩
    rintro k σ H4 hk ⟨y5, y6, rfl, rc4, hT4, hV4⟩
    refine ⟨.ref c, rfl, .ref a, rfl, c, a, n, s, rfl, rc4.2.1, hT4, hq, n4, fun H5 p m s5 hm hF => ?_⟩
    have r45 : RC c L.P H4 H5 := .of_sip rc4.2.1 rc4.2.2 s5
    have rc5 := rc4.trans r45
    refine ⟨_, rfl, _, rfl, ?_⟩
    cases hf : (rings n).find? (isBad (cell s)) with
    | some r => exact iteFF rfl (iteFF rfl ⟨_, _, rfl, rc5, rc_TR r45 rc4.2.1 hT4, rc_told r45 rc4.2.1 hV4⟩)
    | none =>
      refine iteTT rfl ⟨.ref p, rfl, p, n, m, rfl, hm, hF.sq, n1, n4, fill_small hA hF, rc5.2.2, fun H6 v6 x6 hv6 => ?_⟩
      have r56 : RC c L.P H5 H6 := .of_L rc5.2.1 x6
      have ev : v6 = .non := filled_none n1 n4 hq hf hF hv6
      subst ev
      refine ⟨rfl, _, rfl, iteFF rfl ⟨_, _, rfl, rc5.trans r56, rc_TR r56 rc5.2.1 (rc_TR r45 rc4.2.1 hT4), rc_told r56 rc5.2.1 (rc_told r45 rc4.2.1 hV4)⟩⟩
  clear hT3 hV3 rc3
  rintro σ H3 ⟨y5, y6, rfl, rc3, hT3, hV3⟩
  -- due: nothing is told
  refine ⟨fun σ H' => σ = [some (.ref c), some (.int (0 + (i : Int))), some (.ref a), some (.bl ((rings n).find? (isBad (cell s))).isNone), some v, y5, y6, x7, x8, none] ∧ H' = H3, ?_, ?_⟩
  · refine ⟨_, rfl, _, rfl, ?_⟩
    unfold TOLD at hV3
    cases hf : (rings n).find? (isBad (cell s)) with
    | some r => exact iteFF rfl (iteFF rfl ⟨rfl, rfl⟩)
    | none =>
      rw [hf] at hV3
      subst hV3
      exact iteTT rfl ⟨_, rfl, rfl, _, rfl, iteFF rfl ⟨rfl, rfl⟩⟩
  rintro σ H4 ⟨rfl, rfl⟩
  -- not due: the told table
  refine ⟨fun σ H' => ∃ x1 x2 x3 x4 x5 x6 x7 x8, σ = [some (.ref c), x1, x2, x3, x4, x5, x6, x7, x8, none] ∧ RC c L.P H H', ?_, ?_⟩
  · refine ⟨_, rfl, _, rfl, ?_⟩
    unfold TOLD at hV3
    cases hf : (rings n).find? (isBad (cell s)) with
    | none => exact iteFF rfl ⟨_, _, _, _, _, _, _, _, rfl, rc3⟩
    | some r =>
      rw [hf] at hV3
      obtain ⟨t, dx, b, rfl, ht, hTb⟩ := hV3
      refine iteTT rfl ⟨.ref t, rfl, t, dx, _, rfl, ht, true, rfl, iteFF rfl ?_⟩
      have hqf : Sq n (fillM n s r) := mat_sq _ _
      refine ⟨.ref t, rfl, t, _, dx, _, _, rfl, ht, T.cT, T.nR, rfl, b, n, fillM n s r, rfl, hTb, hqf, n1, n4, told_small hA, rc3.2.2, fun H5 v5 x5 hv5 => ⟨rfl, _, rfl, iteFF (decide_eq_false (told_bad n1 n4 hA hf hv5)) ?_⟩⟩
      have r45 : RC c L.P H4 H5 := .of_L rc3.2.1 x5
      have rc5 := rc3.trans r45
      refine ⟨.ref a, rfl, a, n, s, rfl, rc_TR r45 rc3.2.1 hT3, hq, n1, n4, hA, fun hf2 => ?_, fun r2 hf2 H6 t2 dx2 b2 e6 ht2 hT2 => ?_⟩
      · rw [hf] at hf2
        cases hf2
      rw [hf] at hf2
      obtain rfl : r = r2 := Option.some.inj hf2
      have ht6 := e6 _ _ (r45.at rc3.2.1 ht (fun _ w => by cases w) fun _ w => by cases w)
      have hTb6 := (rc_TR r45 rc3.2.1 hTb).ext e6
      refine ⟨.ref t, rfl, ⟨t2, t, dx2, dx, _, _, rfl, rfl, ht2, ht6, dx2, dx, b2, b, fillM n s r, ht2, ht6, hT2, hTb6⟩, fun Hb e7 => ⟨_, rfl, iteFF rfl ?_⟩⟩
      have e57 := e6.trans e7
      have rc7 : RC c L.P H Hb := rc5.ext e57
      have ht7 := e7 _ _ ht6
      have hTb7 := hTb6.ext e7
      have hT7 : TR K Hb a s := (rc_TR r45 rc3.2.1 hT3).ext e57
      clear hT2 ht2 hTb6 ht6 e6 e7 e57 rc5 r45 hv5 x5
      refine ⟨by decide, fun pf hpf => ?_⟩
      have eb : Ext Hb (upd Hb pf (.lst [])) := ext_new hpf
      obtain ⟨sas, sS, sE⟩ := id hTb7
      refine ⟨.ref t, rfl, t, _, dx, _, _, rfl, eb _ _ ht7, T.cT, T.nR, rfl, b, rfl, ⟨_, sS.ext eb⟩, ?_⟩
      refine for_tup (K := K) (xs := refsV sas) (fun i2 σ H' => ∃ x8 : Option V, σ = [some (.ref c), some (.int (0 + (i : Int))), some (.ref a), some (.bl (some r).isNone), some (.ref t), y5, y6, some (.ref pf), x8, none] ∧ Ext Hb H' ∧ ∃ acc : List Addr, H' pf = some (.lst (refsV acc)) ∧ Each (fun p r => SqT K H' p (intsV r)) acc (((fillM n s r).take i2).map fun r => r.map sgnI)) ⟨_, rfl, ext_new hpf, [], upd_same, Each.nil⟩ ?_ ?_ ?_
      · rintro i2 σ H' _ ⟨x8, rfl, e1, _⟩
        exact sS.ext e1
      · rintro i2 x σ H1 hx ⟨x8, rfl, e1, acc, hacc, hEa⟩
        obtain ⟨ra, rfl, hra⟩ := get_refs hx
        obtain ⟨row, hrow, hra2⟩ := sE.get' hra
        have hin : i2 < n := by
          rw [← (hqf).1]
          exact (List.getElem?_eq_some_iff.mp hrow).1
        have lr := (hqf).2 i2 row hrow
        have hR := hra2.ext e1
        refine ⟨.ref pf, rfl, .inl ⟨rfl, _, SqL.of hacc⟩, .ref ra, rfl, ra, rfl, ⟨_, hR⟩, fun D hD => ?_⟩
        refine lc_tup (K := K) (a := ra) (xs := intsV row) (fun j H' => Ext H1 H' ∧ j ≤ n ∧ H' D = some (.lst (intsV ((row.take j).map sgnI)))) ⟨ext_new hD, Nat.zero_le _, upd_same⟩ (fun j H' _ z => hR.ext z.1) ?_ ?_
        · rintro j y H2 hy ⟨e2, _, hDj⟩
          obtain ⟨v, rfl, hv⟩ := get_ints hy
          have hjn : j < n := by
            rw [← lr]
            exact (List.getElem?_eq_some_iff.mp hv).1
          refine ⟨rfl, .int v, rfl, v, rfl, _, hDj, ?_, ext_at hD e2, hjn, ?_⟩
          · rw [List.length_map, List.length_map, List.length_take]
            exact small1000 (by omega)
          · rw [upd_same, List.take_add_one, hv, List.map_append, intsV, intsV, List.map_append]
            rfl
        · rintro H2 ⟨e2, _, hDj⟩
          rw [List.length_map, List.take_length] at hDj
          refine .inl ⟨D, _, rfl, SqL.of hDj, fun t2 ht2 => ?_⟩
          have e3 : Ext H2 (upd H2 t2 (.tup (intsV (row.map sgnI)))) := ext_new ht2
          have hacc3 : upd H2 t2 (.tup (intsV (row.map sgnI))) pf = some (.lst (refsV acc)) := e3 _ _ (e2 _ _ hacc)
          refine ⟨pf, _, _, rfl, rfl, hacc3, ?_, ?_⟩
          · rw [List.length_map, hEa.1, List.length_map, List.length_take]
            exact small1000 (by omega)
          obtain ⟨w1, w2, w3⟩ := push_ok (F := fun H a b => SqT K H a (intsV b)) (fun o a b z => sqT_at hacc3 z) hpf ((e1.trans e2).trans e3) (hEa.mono fun a b z => z.ext (e2.trans e3)) (r := row.map sgnI) (SqT.of upd_same)
          refine ⟨_, rfl, w1, acc ++ [t2], w2, ?_⟩
          rw [List.take_add_one, hrow, List.map_append]
          exact w3
      · rintro σ Hc ⟨x8, rfl, e1, acc, hacc, hEa⟩
        rw [List.length_map, sE.1, List.take_length] at hEa
        refine ⟨.ref pf, rfl, .inl ⟨pf, _, rfl, SqL.of hacc, fun t3 ht3 => ?_⟩⟩
        have e8 : Ext Hc (upd Hc t3 (.tup (refsV acc))) := ext_new ht3
        have hTn : TR K (upd Hc t3 (.tup (refsV acc))) t3 s := ⟨acc, SqT.of upd_same, by
          have z := hEa.mono fun a b z => SqT.ext z e8
          rw [show (fillM n s r).map (fun r => r.map sgnI) = s from sgn_told hq hA] at z
          exact z⟩
        refine ⟨.ref a, rfl, dM s, dM s, hTn.dp, (hT7.ext (e1.trans e8)).dp, dM_shaped s, dM_shaped s, _, rfl, iteFF (by rw [dM_same]; rfl) ?_⟩
        exact ⟨_, _, _, _, _, _, _, _, rfl, rc7.ext (e1.trans e8)⟩
  rintro σ H5 ⟨z1, z2, z3, z4, z5, z6, z7, z8, rfl, rc5⟩
  -- a table of its own
  refine ⟨.ref c, rfl, c, rfl, rc5.2.1, fun Hb p n m s6 hm hq6 n1 n4 hA6 => ?_⟩
  have rc6 : RC c L.P H Hb := rc5.trans (.of_sip rc5.2.1 rc5.2.2 s6)
  refine ⟨by decide, fun pf hpf => ?_⟩
  have eb : Ext Hb (upd Hb pf (.lst [])) := ext_new hpf
  obtain ⟨sas, sS, sE⟩ := id hm
  refine ⟨.ref p, rfl, p, rfl, ⟨_, sS.ext eb⟩, ?_⟩
  refine for_tup (K := K) (xs := refsV sas) (fun i2 σ H' => ∃ x8 : Option V, σ = [some (.ref c), z1, z2, z3, z4, z5, some (.ref p), some (.ref pf), x8, none] ∧ Ext Hb H' ∧ ∃ acc : List Addr, H' pf = some (.lst (refsV acc)) ∧ Each (fun p r => SqT K H' p (intsV r)) acc ((m.take i2).map fun r => r.map sgnI)) ⟨_, rfl, ext_new hpf, [], upd_same, Each.nil⟩ ?_ ?_ ?_
  · rintro i2 σ H' _ ⟨x8, rfl, e1, _⟩
    exact sS.ext e1
  · rintro i2 x σ H1 hx ⟨x8, rfl, e1, acc, hacc, hEa⟩
    obtain ⟨ra, rfl, hra⟩ := get_refs hx
    obtain ⟨row, hrow, hra2⟩ := sE.get' hra
    have hin : i2 < n := by
      rw [← (hq6).1]
      exact (List.getElem?_eq_some_iff.mp hrow).1
    have lr := (hq6).2 i2 row hrow
    have hR := hra2.ext e1
    refine ⟨.ref pf, rfl, .inl ⟨rfl, _, SqL.of hacc⟩, .ref ra, rfl, ra, rfl, ⟨_, hR⟩, fun D hD => ?_⟩
    refine lc_tup (K := K) (a := ra) (xs := intsV row) (fun j H' => Ext H1 H' ∧ j ≤ n ∧ H' D = some (.lst (intsV ((row.take j).map sgnI)))) ⟨ext_new hD, Nat.zero_le _, upd_same⟩ (fun j H' _ z => hR.ext z.1) ?_ ?_
    · rintro j y H2 hy ⟨e2, _, hDj⟩
      obtain ⟨v, rfl, hv⟩ := get_ints hy
      have hjn : j < n := by
        rw [← lr]
        exact (List.getElem?_eq_some_iff.mp hv).1
      refine ⟨rfl, .int v, rfl, v, rfl, _, hDj, ?_, ext_at hD e2, hjn, ?_⟩
      · rw [List.length_map, List.length_map, List.length_take]
        exact small1000 (by omega)
      · rw [upd_same, List.take_add_one, hv, List.map_append, intsV, intsV, List.map_append]
        rfl
    · rintro H2 ⟨e2, _, hDj⟩
      rw [List.length_map, List.take_length] at hDj
      refine .inl ⟨D, _, rfl, SqL.of hDj, fun t2 ht2 => ?_⟩
      have e3 : Ext H2 (upd H2 t2 (.tup (intsV (row.map sgnI)))) := ext_new ht2
      have hacc3 : upd H2 t2 (.tup (intsV (row.map sgnI))) pf = some (.lst (refsV acc)) := e3 _ _ (e2 _ _ hacc)
      refine ⟨pf, _, _, rfl, rfl, hacc3, ?_, ?_⟩
      · rw [List.length_map, hEa.1, List.length_map, List.length_take]
        exact small1000 (by omega)
      obtain ⟨w1, w2, w3⟩ := push_ok (F := fun H a b => SqT K H a (intsV b)) (fun o a b z => sqT_at hacc3 z) hpf ((e1.trans e2).trans e3) (hEa.mono fun a b z => z.ext (e2.trans e3)) (r := row.map sgnI) (SqT.of upd_same)
      refine ⟨_, rfl, w1, acc ++ [t2], w2, ?_⟩
      rw [List.take_add_one, hrow, List.map_append]
      exact w3
  · rintro σ Hc ⟨x8, rfl, e1, acc, hacc, hEa⟩
    rw [List.length_map, sE.1, List.take_length] at hEa
    have rcc : RC c L.P H Hc := rc6.ext e1
    refine ⟨.ref p, rfl, p, n, m, rfl, hm.ext e1, hq6, n1, n4, (fun i r j x hi hj => by
      have z := hA6 i r j x hi hj
      exact ⟨by omega, by omega⟩), rcc.2.2, fun Hd v xd hv => ?_⟩
    have rcd : RC c L.P Hc Hd := .of_L rcc.2.1 xd
    have rch : RC c L.P H Hd := rcc.trans rcd
    refine ⟨rfl, _, rfl, ?_⟩
    by_cases hvn : v = .non
    · refine iteFF ?_ (iteFF rfl ⟨_, _, _, _, _, _, _, _, rfl, rch⟩)
      rw [decide_eq_true hvn]
      rfl
    · refine iteTT ?_ ?_
      · rw [decide_eq_false hvn]
        rfl
      have npf : pf ≠ c := fresh_ne hpf rc6.2.1
      have haccd : Hd pf = some (.lst (refsV acc)) := rcd.1 _ _ npf hacc fun _ w => by cases w
      refine ⟨.ref pf, rfl, .inl ⟨pf, _, rfl, SqL.of haccd, fun t3 ht3 => ?_⟩⟩
      have e8 : Ext Hd (upd Hd t3 (.tup (refsV acc))) := ext_new ht3
      have hTn : TR K (upd Hd t3 (.tup (refsV acc))) t3 (sgnM m) := ⟨acc, SqT.of upd_same, hEa.mono fun a b z => (rc_sqT rcd rcc.2.1 z).ext e8⟩
      refine ⟨t3, n, sgnM m, rfl, hTn, sgnM_sq hq6, n1, n4, sgnM_B hq6, fun He e9 => ⟨_, rfl, ?_⟩⟩
      refine iteFF ?_ ⟨_, _, _, _, _, _, _, _, rfl, rch.ext (e8.trans e9)⟩
      cases hg : (rings n).find? (isBad (cell (sgnM m))) with
      | none => exact absurd (grid_good n1 n4 hq6 hg hv) hvn
      | some r => rfl
end
end Ow
set_option Elab.async false
set_option linter.all false
set_option maxRecDepth 100000
namespace Ow
open PySem PySem.Spec PyProof.Rows L2
theorem TR.two {K : PySem.W.Frag} {H : Hp} {t1 t2 t3 : Addr} {r1 r2 : List Int} (h1 : SqT K H t1 (intsV r1)) (h2 : SqT K H t2 (intsV r2)) (h3 : SqT K H t3 (refsV [t1, t2])) : TR K H t3 [r1, r2] := ⟨[t1, t2], h3, by
  have z := (Each.nil (F := fun p r => SqT K H p (intsV r))).snoc h1
  exact z.snoc h2⟩
theorem TR.one {K : PySem.W.Frag} {H : Hp} {t1 t3 : Addr} {r1 : List Int} (h1 : SqT K H t1 (intsV r1)) (h3 : SqT K H t3 (refsV [t1])) : TR K H t3 [r1] := ⟨[t1], h3, (Each.nil (F := fun p r => SqT K H p (intsV r))).snoc h1⟩
theorem sq_two {a b c d : Int} : Sq 2 [[a, b], [c, d]] := ⟨rfl, fun i r h => by
  have z := List.mem_of_getElem? h
  simp only [List.mem_cons, List.not_mem_nil, or_false] at z
  rcases z with rfl | rfl <;> rfl⟩
theorem sq_one {a : Int} : Sq 1 [[a]] := ⟨rfl, fun i r h => by
  have z := List.mem_of_getElem? h
  simp only [List.mem_cons, List.not_mem_nil, or_false] at z
  rw [z]
  rfl⟩
theorem all_of {p : Int → Prop} {m : List (List Int)} (h : ∀ r ∈ m, ∀ x ∈ r, p x) : All p m := fun i r j x hi hj => h r (List.mem_of_getElem? hi) x (List.mem_of_getElem? hj)
instance (x : Int) : Decidable (B x) := by unfold B; infer_instance
section
variable {P : Program} {w : World} {K : PySem.W.Frag} {mg : Str → Option Value} {base : Heap}
theorem scLaw : FnScope ["_law_script", "_law_turn"] ["_law_script"] (defScope sLaw) := ⟨rfl, rfl, rfl, by decide +kernel, rfl, by decide +kernel, by decide +kernel⟩
def spLaw (K : PySem.W.Frag) (Pt : Addr) : Sp := fun vs H Q _ => ∃ (a : Addr) (xs : List Int), vs = [.ref a] ∧ SqL K H a (intsV xs) ∧ LamX.TabS H Pt qLam ∧ ∀ H', Q (.bl true) H'
theorem ok_law (T : Tx K mg) (L : Lx K mg) (TB : LamX.TabB base mg L.c L.P) {f : Addr} {fd : FuncData} (F : Fun K "law" "law" sLaw f fd) : FnOk P w K mg base CX0 9 f fd ["_law_script"] (spLaw K L.P) := by
  have GA : FnOk P w K mg base CX0 7 T.dAlways.f T.dAlways.fd ["signs"] (spAlways K) := ok_always T
  have GR : FnOk P w K mg base CX0 8 T.dRight.f T.dRight.fd ["_law_can_here"] (spRight L.P) := ok_right T L TB
  have GC : FnOk P w K mg base CX0 1 T.dCan.f T.dCan.fd ["_law_script", "_law_turn"] (spCan K) := ok_can T
  refine F.ok scLaw (fun vs H Q E h => ?_) (fun cdv A outer s H vs Q E hr h => ?_)
  · obtain ⟨a, xs, rfl, _⟩ := h
    rfl
  obtain ⟨a, xs, rfl, ha, hP, q⟩ := h
  refine ⟨_, pss_cons (ps_if (pt_cmpR (op_neD hr.units) (pe_lst
        (pa_cons (pe_call GA (hr.mono (by decide)) (by rfl) T.dAlways.g T.dAlways.F.kp T.dAlways.b .nil pass0 (pa_cons (pe_tup (pa_cons (pe_tup (pa_cons pe_int (pa_cons pe_int pa_nil))) (pa_cons (pe_tup (pa_cons (pe_un un_neg pe_int) (pa_cons pe_int pa_nil))) pa_nil))) pa_nil))
        (pa_cons (pe_call GA (hr.mono (by decide)) (by rfl) T.dAlways.g T.dAlways.F.kp T.dAlways.b .nil pass0 (pa_cons (pe_tup (pa_cons (pe_tup (pa_cons pe_int (pa_cons pe_int pa_nil))) (pa_cons (pe_tup (pa_cons pe_int (pa_cons pe_int pa_nil))) pa_nil))) pa_nil))
        (pa_cons (pe_call GA (hr.mono (by decide)) (by rfl) T.dAlways.g T.dAlways.F.kp T.dAlways.b .nil pass0 (pa_cons (pe_tup (pa_cons (pe_tup (pa_cons pe_int pa_nil)) pa_nil)) pa_nil))
        (pa_cons (pe_call GA (hr.mono (by decide)) (by rfl) T.dAlways.g T.dAlways.F.kp T.dAlways.b .nil pass0 (pa_cons (pe_tup (pa_cons (pe_tup (pa_cons pe_int pa_nil)) pa_nil)) pa_nil)) pa_nil)))))
      (pe_lst (pa_cons pe_bl (pa_cons pe_bl (pa_cons pe_bl (pa_cons pe_bl pa_nil))))) (nomark _)) (pss_one (ps_ret pe_bl)) pss_nil)
    (pss_one (ps_ret (pe_callB (cr_all rfl) (by rfl) T.B.all boot_all (pa_cons (pe_lc (own := [("_law_turn", 1)]) (g := gName 1) (tt := tYes) rfl scLaw.nd
        (pi_range1 (by rfl) T.B.range (pa_cons (pe_callB (call_max2 rfl) (by rfl) T.B.max (by decide +kernel) (pa_cons pe_int (pa_cons (pe_callB (call_min2 rfl) (by rfl) T.B.min (by decide +kernel) (pa_cons (pe_callB call_len_seq (by rfl) T.B.len PySem.boot_len (pa_cons (pv 0) pa_nil)) (pa_cons pe_int pa_nil))) pa_nil))) pa_nil))
        (blkOk_by (N := ["_law_script", "_law_turn"]) (sc := defScope sLaw) (by decide +kernel)) (fun _ _ _ _ _ => pg_name (i := 1) scLaw.nd rfl (Or.inl rfl)) (fun _ _ _ _ _ => pts_nil)
        (fun _ _ _ _ _ => pe_call GR hr (by rfl) T.dRight.g T.dRight.F.kp T.dRight.b .nil pass0 (pa_cons (pe_call GC (hr.mono (by decide)) (by rfl) T.dCan.g T.dCan.F.kp T.dCan.b .nil pass0 (pa_cons (pv 0) (pa_cons (pv 1) pa_nil))) pa_nil))) pa_nil)))), ?_⟩
  -- the four known answers
  refine ⟨by show 2 ≤ sizeLine; decide, fun a1 ha1 => ⟨_, rfl, by show 2 ≤ sizeLine; decide, fun a2 ha2 => ⟨by show 2 ≤ sizeLine; decide, fun a3 ha3 => ?_⟩⟩⟩
  have e1 := ext_new (o := .tup [.int 1, .int 1]) ha1
  have e2 := ext_new (o := .tup [.int (-1), .int 1]) ha2
  have e3 := ext_new (o := .tup [.ref a1, .ref a2]) ha3
  refine ⟨a3, 2, [[1, 1], [-1, 1]], rfl, TR.two (((SqT.of upd_same).ext e2).ext e3) ((SqT.of upd_same).ext e3) (SqT.of upd_same), sq_two, by decide, by decide, all_of (by decide), fun H1 x1 => ?_⟩
  have y1 : Ext H H1 := ((e1.trans e2).trans e3).trans x1
  refine ⟨by show 2 ≤ sizeLine; decide, fun b1 hb1 => ⟨by show 2 ≤ sizeLine; decide, fun b2 hb2 => ⟨by show 2 ≤ sizeLine; decide, fun b3 hb3 => ?_⟩⟩⟩
  have f1 := ext_new (o := .tup [.int 1, .int 1]) hb1
  have f2 := ext_new (o := .tup [.int 1, .int 1]) hb2
  have f3 := ext_new (o := .tup [.ref b1, .ref b2]) hb3
  refine ⟨b3, 2, [[1, 1], [1, 1]], rfl, TR.two (((SqT.of upd_same).ext f2).ext f3) ((SqT.of upd_same).ext f3) (SqT.of upd_same), sq_two, by decide, by decide, all_of (by decide), fun H2 x2 => ?_⟩
  have y2 : Ext H H2 := y1.trans (((f1.trans f2).trans f3).trans x2)
  refine ⟨by show 1 ≤ sizeLine; decide, fun c1 hc1 => ⟨by show 1 ≤ sizeLine; decide, fun c3 hc3 => ?_⟩⟩
  have g1 := ext_new (o := .tup [.int 1]) hc1
  have g3 := ext_new (o := .tup [.ref c1]) hc3
  refine ⟨c3, 1, [[1]], rfl, TR.one ((SqT.of upd_same).ext g3) (SqT.of upd_same), sq_one, by decide, by decide, all_of (by decide), fun H3 x3 => ?_⟩
  have y3 : Ext H H3 := y2.trans ((g1.trans g3).trans x3)
  refine ⟨by show 1 ≤ sizeLine; decide, fun d1 hd1 => ⟨by show 1 ≤ sizeLine; decide, fun d3 hd3 => ?_⟩⟩
  have h1 := ext_new (o := .tup [.int 0]) hd1
  have h3 := ext_new (o := .tup [.ref d1]) hd3
  refine ⟨d3, 1, [[0]], rfl, TR.one ((SqT.of upd_same).ext h3) (SqT.of upd_same), sq_one, by decide, by decide, all_of (by decide), fun H4 x4 => ?_⟩
  have y4 : Ext H H4 := y3.trans ((h1.trans h3).trans x4)
  refine ⟨by show 4 ≤ sizeLine; decide, fun l1 hl1 => ⟨by show 4 ≤ sizeLine; decide, fun l2 hl2 => ?_⟩⟩
  have v1 : ((rings 2).find? (isBad (cell [[1, 1], [-1, 1]]))).isNone = true := by decide +kernel
  have v2 : ((rings 2).find? (isBad (cell [[1, 1], [1, 1]]))).isNone = false := by decide +kernel
  have v3 : ((rings 1).find? (isBad (cell [[1]]))).isNone = true := by decide +kernel
  have v4 : ((rings 1).find? (isBad (cell [[0]]))).isNone = false := by decide +kernel
  rw [v1, v2, v3, v4] at hl2 ⊢
  have z1 := ext_new (o := .lst [V.bl true, V.bl false, V.bl true, V.bl false]) hl1
  have z2 := ext_new (o := .lst [V.bl true, V.bl false, V.bl true, V.bl false]) hl2
  refine ⟨.list [.bool true, .bool false, .bool true, .bool false], .list [.bool true, .bool false, .bool true, .bool false], .lst ((SqL.of upd_same).ext z2) (.cons (.bl _) (.cons (.bl _) (.cons (.bl _) (.cons (.bl _) .nil)))),
    .lst (SqL.of upd_same) (.cons (.bl _) (.cons (.bl _) (.cons (.bl _) (.cons (.bl _) .nil)))), rfl, rfl, _, rfl, iteFF rfl ?_⟩
  have y5 : Ext H (upd (upd H4 l1 (.lst [V.bl true, V.bl false, V.bl true, V.bl false])) l2 (.lst [V.bl true, V.bl false, V.bl true, V.bl false])) := (y4.trans z1).trans z2
  generalize upd (upd H4 l1 (.lst [V.bl true, V.bl false, V.bl true, V.bl false])) l2 (.lst [V.bl true, V.bl false, V.bl true, V.bl false]) = H5 at y5 ⊢
  -- the turns
  have ha5 := ha.ext y5
  have hP5 := hP.ext y5
  refine ⟨.ref a, rfl, a, _, rfl, .inl ha5, _, _, rfl, _, _, rfl, _, rfl, ?_, ?_, fun D hD => ?_⟩
  · split <;> split <;> omega
  · split <;> split <;> omega
  refine lc_range (fun k H' => ExtL L.P H5 H' ∧ k ≤ 5 ∧ H' D = some (.lst ((List.replicate k true).map V.bl))) ⟨.of_ext hP5 (ext_new hD), Nat.zero_le _, upd_same⟩ ?_ ?_
  · rintro k H6 hk ⟨x6, _, hD6⟩
    have hk5 : k < 5 := by
      refine Nat.lt_of_lt_of_le hk ?_
      split <;> split <;> omega
    have ek : (0 : Int) + (k : Int) = ((k : Nat) : Int) := by omega
    rw [ek]
    refine ⟨rfl, .ref a, rfl, .int (k : Int), rfl, a, k, xs, rfl, extN_sqL x6.1 ha5, fun H7 p e7 hp hc => ?_⟩
    have ndp : D ≠ p := fun z => by
      rw [← z, hD6] at hp
      cases hp
    refine ⟨p, rfl, hc, x6.2.ext e7, fun H8 rc => ⟨_, rc.1 _ _ ndp (e7 _ _ hD6) (fun ps z => by cases z), ?_, ?_⟩⟩
    · rw [List.length_map, List.length_replicate]
      exact small1000 (by omega)
    have x8 : ExtL L.P H5 H8 := ⟨fun b o z n => by
      have z2 := x6.1 _ _ z n
      exact rc.1 _ _ (fun w => by
        rw [← w, z2] at hp
        cases hp) (e7 _ _ z2) n, rc.2.2⟩
    refine ⟨⟨fun b o z n => ?_, ?_⟩, hk5, ?_⟩
    · have nb : b ≠ D := fun w => by
        rw [w, hD] at z
        cases z
      rw [upd_ne nb]
      exact x8.1 _ _ z n
    · obtain ⟨ps, w1, w2, w3⟩ := x8.2
      have hD8 := rc.1 _ _ ndp (e7 _ _ hD6) (fun ps z => by cases z)
      have kp : ∀ b o, H8 b = some o → (∀ ys, o ≠ .lst ys) → upd H8 D (.lst ((List.replicate k true).map V.bl ++ [V.bl true])) b = some o := fun b o z n => by
        have nb : b ≠ D := fun w => by
          rw [w, hD8] at z
          exact n _ (Option.some.inj z).symm
        rw [upd_ne nb]
        exact z
      refine ⟨ps, kp _ _ w1 (fun ys z => by cases z), w2, fun pos cv h => ?_⟩
      obtain ⟨c2, u1, u2⟩ := w3 pos cv h
      refine ⟨c2, u1, kp _ _ u2 fun ys z => ?_⟩
      unfold LamX.CodeO at z
      cases z
    · rw [upd_same, List.replicate_succ', List.map_append]
      rfl
  · rintro H6 ⟨x6, _, hD6⟩
    refine ⟨D, _, rfl, SqL.of hD6, ?_⟩
    have ea : ∀ n, (List.replicate n true).all id = true := fun n => by simp
    rw [ea]
    exact q H6
end
end Ow
set_option Elab.async false
set_option linter.all false
set_option maxRecDepth 100000
namespace Ow
open PySem PySem.Spec PyProof.Rows L2
theorem df_mk {K : PySem.W.Frag} {h : Heap} {mg : Str → Option Value} {x : Str} {st : Stmt} {ps : List Str} {f : Addr} {oc : Value} {od an : Option Addr} {osl : Array (Option Value)} {kV doc pm cdv ct : Value} (X : K.In h) (G : h.Ns mainGlobals mg)
    (a : PySem.W.nsIn K mainGlobals x = some (some (.ref f))) (l : K.lookup f = some ⟨oc, od, .func (PySem.W.fnOf x x (defArgs st) (defBody st) (defScope st) .none kV doc pm an cdv ct), osl⟩) (c : PySem.W.codeIn K cdv x = true) (k : PySem.W.keepIn K (.ref f) = true)
    (hb : ∀ (kV doc pm : Value) (an : Option Addr) (cdv ct : Value) (us : List Value), us.length = ps.length → bindArgs (PySem.W.fnOf x x (defArgs st) (defBody st) (defScope st) .none kV doc pm an cdv ct) ⟨us, []⟩ = pure (ps.zip us)) : Nonempty (Df K mg x st ps) :=
  ⟨⟨f, _, fun_mk l c k, (fun_mk l c k).binds hb, PySem.W.mg_of X G a⟩⟩
theorem all_mk {l : PySem.W.OpenLaw} {w : World} {K : PySem.W.Frag} {h : Heap} {mg : Str → Option Value} {fa : Addr}
    {f0 : Addr} {od0 an0 : Option Addr} {sl0 : Array (Option Value)} {oc0 kV0 dc0 pm0 cd0 ct0 : Value}
    {f1 : Addr} {od1 an1 : Option Addr} {sl1 : Array (Option Value)} {oc1 kV1 dc1 pm1 cd1 ct1 : Value}
    {f2 : Addr} {od2 an2 : Option Addr} {sl2 : Array (Option Value)} {oc2 kV2 dc2 pm2 cd2 ct2 : Value}
    {f3 : Addr} {od3 an3 : Option Addr} {sl3 : Array (Option Value)} {oc3 kV3 dc3 pm3 cd3 ct3 : Value}
    {f4 : Addr} {od4 an4 : Option Addr} {sl4 : Array (Option Value)} {oc4 kV4 dc4 pm4 cd4 ct4 : Value}
    {f5 : Addr} {od5 an5 : Option Addr} {sl5 : Array (Option Value)} {oc5 kV5 dc5 pm5 cd5 ct5 : Value}
    {f6 : Addr} {od6 an6 : Option Addr} {sl6 : Array (Option Value)} {oc6 kV6 dc6 pm6 cd6 ct6 : Value}
    {f7 : Addr} {od7 an7 : Option Addr} {sl7 : Array (Option Value)} {oc7 kV7 dc7 pm7 cd7 ct7 : Value}
    {f8 : Addr} {od8 an8 : Option Addr} {sl8 : Array (Option Value)} {oc8 kV8 dc8 pm8 cd8 ct8 : Value}
    {f9 : Addr} {od9 an9 : Option Addr} {sl9 : Array (Option Value)} {oc9 kV9 dc9 pm9 cd9 ct9 : Value}
    {f10 : Addr} {od10 an10 : Option Addr} {sl10 : Array (Option Value)} {oc10 kV10 dc10 pm10 cd10 ct10 : Value}
    {f11 : Addr} {od11 an11 : Option Addr} {sl11 : Array (Option Value)} {oc11 kV11 dc11 pm11 cd11 ct11 : Value}
    {f12 : Addr} {od12 an12 : Option Addr} {sl12 : Array (Option Value)} {oc12 kV12 dc12 pm12 cd12 ct12 : Value}
    {f13 : Addr} {od13 an13 : Option Addr} {sl13 : Array (Option Value)} {oc13 kV13 dc13 pm13 cd13 ct13 : Value}
    {f14 : Addr} {od14 an14 : Option Addr} {sl14 : Array (Option Value)} {oc14 kV14 dc14 pm14 cd14 ct14 : Value}
    {f15 : Addr} {od15 an15 : Option Addr} {sl15 : Array (Option Value)} {oc15 kV15 dc15 pm15 cd15 ct15 : Value}
    {f16 : Addr} {od16 an16 : Option Addr} {sl16 : Array (Option Value)} {oc16 kV16 dc16 pm16 cd16 ct16 : Value}
    {f17 : Addr} {od17 an17 : Option Addr} {sl17 : Array (Option Value)} {oc17 kV17 dc17 pm17 cd17 ct17 : Value}
    {f18 : Addr} {od18 an18 : Option Addr} {sl18 : Array (Option Value)} {oc18 kV18 dc18 pm18 cd18 ct18 : Value}
    {f19 : Addr} {od19 an19 : Option Addr} {sl19 : Array (Option Value)} {oc19 kV19 dc19 pm19 cd19 ct19 : Value}
    {f20 : Addr} {od20 an20 : Option Addr} {sl20 : Array (Option Value)} {oc20 kV20 dc20 pm20 cd20 ct20 : Value}
    {f21 : Addr} {od21 an21 : Option Addr} {sl21 : Array (Option Value)} {oc21 kV21 dc21 pm21 cd21 ct21 : Value}
    {fL cL PL : Addr} {odL anL : Option Addr} {slL : Array (Option Value)} {ocL kVL dcL pmL ctL : Value}
    {fW : Addr} {odW anW : Option Addr} {slW : Array (Option Value)} {ocW kVW dcW pmW cdW ctW : Value}
    {C fI fE : Addr} {odI anI odE anE : Option Addr} {slI slE : Array (Option Value)} {ocI kVI dcI pmI cdI ctI ocE kVE dcE pmE cdE ctE : Value}
    {t5 tn tg : Tok}
    (X : K.In h) (G : h.Ns mainGlobals mg) (hfa : mg "law" = some (.ref fa)) (hPL : h.get? PL = some { cls := .none, data := .fields #[] })
    (a0 : PySem.W.nsIn K mainGlobals "is_integer" = some (some (.ref f0)))
    (l0 : K.lookup f0 = some ⟨oc0, od0, .func (PySem.W.fnOf "is_integer" "is_integer" (defArgs sIsInt) (defBody sIsInt) (defScope sIsInt) .none kV0 dc0 pm0 an0 cd0 ct0), sl0⟩)
    (c0 : PySem.W.codeIn K cd0 "is_integer" = true)
    (k0 : PySem.W.keepIn K (.ref f0) = true)
    (a1 : PySem.W.nsIn K mainGlobals "is_between" = some (some (.ref f1)))
    (l1 : K.lookup f1 = some ⟨oc1, od1, .func (PySem.W.fnOf "is_between" "is_between" (defArgs sBetw) (defBody sBetw) (defScope sBetw) .none kV1 dc1 pm1 an1 cd1 ct1), sl1⟩)
    (c1 : PySem.W.codeIn K cd1 "is_between" = true)
    (k1 : PySem.W.keepIn K (.ref f1) = true)
    (a2 : PySem.W.nsIn K mainGlobals "rank_of" = some (some (.ref f2)))
    (l2 : K.lookup f2 = some ⟨oc2, od2, .func (PySem.W.fnOf "rank_of" "rank_of" (defArgs sRank) (defBody sRank) (defScope sRank) .none kV2 dc2 pm2 an2 cd2 ct2), sl2⟩)
    (c2 : PySem.W.codeIn K cd2 "rank_of" = true)
    (k2 : PySem.W.keepIn K (.ref f2) = true)
    (a3 : PySem.W.nsIn K mainGlobals "rows_fault" = some (some (.ref f3)))
    (l3 : K.lookup f3 = some ⟨oc3, od3, .func (PySem.W.fnOf "rows_fault" "rows_fault" (defArgs sFault) (defBody sFault) (defScope sFault) .none kV3 dc3 pm3 an3 cd3 ct3), sl3⟩)
    (c3 : PySem.W.codeIn K cd3 "rows_fault" = true)
    (k3 : PySem.W.keepIn K (.ref f3) = true)
    (a4 : PySem.W.nsIn K mainGlobals "check_signs" = some (some (.ref f4)))
    (l4 : K.lookup f4 = some ⟨oc4, od4, .func (PySem.W.fnOf "check_signs" "check_signs" (defArgs sCheck) (defBody sCheck) (defScope sCheck) .none kV4 dc4 pm4 an4 cd4 ct4), sl4⟩)
    (c4 : PySem.W.codeIn K cd4 "check_signs" = true)
    (k4 : PySem.W.keepIn K (.ref f4) = true)
    (a5 : PySem.W.nsIn K mainGlobals "rings_of" = some (some (.ref f5)))
    (l5 : K.lookup f5 = some ⟨oc5, od5, .func (PySem.W.fnOf "rings_of" "rings_of" (defArgs sRings) (defBody sRings) (defScope sRings) .none kV5 dc5 pm5 an5 cd5 ct5), sl5⟩)
    (c5 : PySem.W.codeIn K cd5 "rings_of" = true)
    (k5 : PySem.W.keepIn K (.ref f5) = true)
    (a6 : PySem.W.nsIn K mainGlobals "worth_of" = some (some (.ref f6)))
    (l6 : K.lookup f6 = some ⟨oc6, od6, .func (PySem.W.fnOf "worth_of" "worth_of" (defArgs sWorth) (defBody sWorth) (defScope sWorth) .none kV6 dc6 pm6 an6 cd6 ct6), sl6⟩)
    (c6 : PySem.W.codeIn K cd6 "worth_of" = true)
    (k6 : PySem.W.keepIn K (.ref f6) = true)
    (a7 : PySem.W.nsIn K mainGlobals "is_bad" = some (some (.ref f7)))
    (l7 : K.lookup f7 = some ⟨oc7, od7, .func (PySem.W.fnOf "is_bad" "is_bad" (defArgs sIsBad) (defBody sIsBad) (defScope sIsBad) .none kV7 dc7 pm7 an7 cd7 ct7), sl7⟩)
    (c7 : PySem.W.codeIn K cd7 "is_bad" = true)
    (k7 : PySem.W.keepIn K (.ref f7) = true)
    (a8 : PySem.W.nsIn K mainGlobals "first_ring" = some (some (.ref f8)))
    (l8 : K.lookup f8 = some ⟨oc8, od8, .func (PySem.W.fnOf "first_ring" "first_ring" (defArgs sFirst) (defBody sFirst) (defScope sFirst) .none kV8 dc8 pm8 an8 cd8 ct8), sl8⟩)
    (c8 : PySem.W.codeIn K cd8 "first_ring" = true)
    (k8 : PySem.W.keepIn K (.ref f8) = true)
    (a9 : PySem.W.nsIn K mainGlobals "always_single" = some (some (.ref f9)))
    (l9 : K.lookup f9 = some ⟨oc9, od9, .func (PySem.W.fnOf "always_single" "always_single" (defArgs sAlways) (defBody sAlways) (defScope sAlways) .none kV9 dc9 pm9 an9 cd9 ct9), sl9⟩)
    (c9 : PySem.W.codeIn K cd9 "always_single" = true)
    (k9 : PySem.W.keepIn K (.ref f9) = true)
    (a10 : PySem.W.nsIn K mainGlobals "bad_table" = some (some (.ref f10)))
    (l10 : K.lookup f10 = some ⟨oc10, od10, .func (PySem.W.fnOf "bad_table" "bad_table" (defArgs sBadT) (defBody sBadT) (defScope sBadT) .none kV10 dc10 pm10 an10 cd10 ct10), sl10⟩)
    (c10 : PySem.W.codeIn K cd10 "bad_table" = true)
    (k10 : PySem.W.keepIn K (.ref f10) = true)
    (a11 : PySem.W.nsIn K mainGlobals "_law_can" = some (some (.ref f11)))
    (l11 : K.lookup f11 = some ⟨oc11, od11, .func (PySem.W.fnOf "_law_can" "_law_can" (defArgs sCan) (defBody sCan) (defScope sCan) .none kV11 dc11 pm11 an11 cd11 ct11), sl11⟩)
    (c11 : PySem.W.codeIn K cd11 "_law_can" = true)
    (k11 : PySem.W.keepIn K (.ref f11) = true)
    (a12 : PySem.W.nsIn K mainGlobals "_law_sip" = some (some (.ref f12)))
    (l12 : K.lookup f12 = some ⟨oc12, od12, .func (PySem.W.fnOf "_law_sip" "_law_sip" (defArgs sSip) (defBody sSip) (defScope sSip) .none kV12 dc12 pm12 an12 cd12 ct12), sl12⟩)
    (c12 : PySem.W.codeIn K cd12 "_law_sip" = true)
    (k12 : PySem.W.keepIn K (.ref f12) = true)
    (a13 : PySem.W.nsIn K mainGlobals "_law_pick" = some (some (.ref f13)))
    (l13 : K.lookup f13 = some ⟨oc13, od13, .func (PySem.W.fnOf "_law_pick" "_law_pick" (defArgs sPick) (defBody sPick) (defScope sPick) .none kV13 dc13 pm13 an13 cd13 ct13), sl13⟩)
    (c13 : PySem.W.codeIn K cd13 "_law_pick" = true)
    (k13 : PySem.W.keepIn K (.ref f13) = true)
    (a14 : PySem.W.nsIn K mainGlobals "_law_grid" = some (some (.ref f14)))
    (l14 : K.lookup f14 = some ⟨oc14, od14, .func (PySem.W.fnOf "_law_grid" "_law_grid" (defArgs sGrid) (defBody sGrid) (defScope sGrid) .none kV14 dc14 pm14 an14 cd14 ct14), sl14⟩)
    (c14 : PySem.W.codeIn K cd14 "_law_grid" = true)
    (k14 : PySem.W.keepIn K (.ref f14) = true)
    (a15 : PySem.W.nsIn K mainGlobals "_law_det" = some (some (.ref f15)))
    (l15 : K.lookup f15 = some ⟨oc15, od15, .func (PySem.W.fnOf "_law_det" "_law_det" (defArgs sDet) (defBody sDet) (defScope sDet) .none kV15 dc15 pm15 an15 cd15 ct15), sl15⟩)
    (c15 : PySem.W.codeIn K cd15 "_law_det" = true)
    (k15 : PySem.W.keepIn K (.ref f15) = true)
    (a16 : PySem.W.nsIn K mainGlobals "_law_cut" = some (some (.ref f16)))
    (l16 : K.lookup f16 = some ⟨oc16, od16, .func (PySem.W.fnOf "_law_cut" "_law_cut" (defArgs sCut) (defBody sCut) (defScope sCut) .none kV16 dc16 pm16 an16 cd16 ct16), sl16⟩)
    (c16 : PySem.W.codeIn K cd16 "_law_cut" = true)
    (k16 : PySem.W.keepIn K (.ref f16) = true)
    (a17 : PySem.W.nsIn K mainGlobals "_law_first_bad" = some (some (.ref f17)))
    (l17 : K.lookup f17 = some ⟨oc17, od17, .func (PySem.W.fnOf "_law_first_bad" "_law_first_bad" (defArgs sFB) (defBody sFB) (defScope sFB) .none kV17 dc17 pm17 an17 cd17 ct17), sl17⟩)
    (c17 : PySem.W.codeIn K cd17 "_law_first_bad" = true)
    (k17 : PySem.W.keepIn K (.ref f17) = true)
    (a18 : PySem.W.nsIn K mainGlobals "_law_signs" = some (some (.ref f18)))
    (l18 : K.lookup f18 = some ⟨oc18, od18, .func (PySem.W.fnOf "_law_signs" "_law_signs" (defArgs sSigns) (defBody sSigns) (defScope sSigns) .none kV18 dc18 pm18 an18 cd18 ct18), sl18⟩)
    (c18 : PySem.W.codeIn K cd18 "_law_signs" = true)
    (k18 : PySem.W.keepIn K (.ref f18) = true)
    (a19 : PySem.W.nsIn K mainGlobals "_law_sign" = some (some (.ref f19)))
    (l19 : K.lookup f19 = some ⟨oc19, od19, .func (PySem.W.fnOf "_law_sign" "_law_sign" (defArgs sSign) (defBody sSign) (defScope sSign) .none kV19 dc19 pm19 an19 cd19 ct19), sl19⟩)
    (c19 : PySem.W.codeIn K cd19 "_law_sign" = true)
    (k19 : PySem.W.keepIn K (.ref f19) = true)
    (a20 : PySem.W.nsIn K mainGlobals "_law_filled" = some (some (.ref f20)))
    (l20 : K.lookup f20 = some ⟨oc20, od20, .func (PySem.W.fnOf "_law_filled" "_law_filled" (defArgs sFilled) (defBody sFilled) (defScope sFilled) .none kV20 dc20 pm20 an20 cd20 ct20), sl20⟩)
    (c20 : PySem.W.codeIn K cd20 "_law_filled" = true)
    (k20 : PySem.W.keepIn K (.ref f20) = true)
    (a21 : PySem.W.nsIn K mainGlobals "_law_right" = some (some (.ref f21)))
    (l21 : K.lookup f21 = some ⟨oc21, od21, .func (PySem.W.fnOf "_law_right" "_law_right" (defArgs sRight) (defBody sRight) (defScope sRight) .none kV21 dc21 pm21 an21 cd21 ct21), sl21⟩)
    (c21 : PySem.W.codeIn K cd21 "_law_right" = true)
    (k21 : PySem.W.keepIn K (.ref f21) = true)
    (aL : PySem.W.nsIn K mainGlobals "_law_lots" = some (some (.ref fL)))
    (lL : K.lookup fL = some ⟨ocL, odL, .func (PySem.W.fnOf "_law_lots" "_law_lots" (defArgs sLots) (defBody sLots) (defScope sLots) .none kVL dcL pmL anL (.ref cL) ctL), slL⟩)
    (cL1 : PySem.W.codeIn K (.ref cL) "_law_lots" = true)
    (kL : PySem.W.keepIn K (.ref fL) = true)
    (tL : PySem.W.codeHdIn K cL PL = true)
    (nL : K.lookup PL = none)
    (aW : PySem.W.nsIn K mainGlobals "law" = some (some (.ref fW)))
    (lW : K.lookup fW = some ⟨ocW, odW, .func (PySem.W.fnOf "law" "law" (defArgs sLaw) (defBody sLaw) (defScope sLaw) .none kVW dcW pmW anW cdW ctW), slW⟩)
    (cW : PySem.W.codeIn K cdW "law" = true)
    (kW : PySem.W.keepIn K (.ref fW) = true)
    (aT : PySem.W.nsIn K mainGlobals "Table" = some (some (.ref C)))
    (aI : PySem.W.findIn K (.ref C) "__init__" = some (some (.ref fI)))
    (iI : PySem.W.isFn K (.ref fI) = true)
    (lI : K.lookup fI = some ⟨ocI, odI, .func (PySem.W.fnOf "__init__" "Table.__init__" (defArgs sTabI) (defBody sTabI) (defScope sTabI) .none kVI dcI pmI anI cdI ctI), slI⟩)
    (cI : PySem.W.codeIn K cdI "Table.__init__" = true)
    (kI : PySem.W.keepIn K (.ref fI) = true)
    (aE : PySem.W.findIn K (.ref C) "__eq__" = some (some (.ref fE)))
    (iE : PySem.W.isFn K (.ref fE) = true)
    (lE : K.lookup fE = some ⟨ocE, odE, .func (PySem.W.fnOf "__eq__" "Table.__eq__" (defArgs sTabE) (defBody sTabE) (defScope sTabE) .none kVE dcE pmE anE cdE ctE), slE⟩)
    (cE : PySem.W.codeIn K cdE "Table.__eq__" = true)
    (kE : PySem.W.keepIn K (.ref fE) = true)
    (pg : PySem.W.plainGet K C Str.empty = true)
    (hd : PySem.W.hasDictIn K C = true)
    (po : PySem.W.plainOver K C = true)
    (sa : PySem.W.findIn K (.ref C) "__setattr__" = some (some (.builtin "object.__setattr__")))
    (mk : PySem.W.makesIn K C = true)
    (kc : PySem.W.keepIn K (.ref C) = true)
    (nR : PySem.W.findIn K (.ref C) "rows" = some none)
    (neT : PySem.W.findIn K (.ref C) "__ne__" = some (some (.builtin "object.__ne__")))
    (iha : PySem.W.findIn K (.ref C) "__class__" = some (some (.builtin "object.__class__")))
    (ihn : PySem.W.specialIn K (.builtin "object.__class__") "__get__" = some (some (.builtin "getset_descriptor.__get__")))
    (iht : PySem.W.takesIn K (.builtin "object.__class__") = some true)
    (ihm : PySem.W.mroIn K C (.type "object") = some true)
    (ime : PySem.W.kitOne K (.ref C) (.ref C) = some true)
    (zr : PySem.W.nsIn K mainGlobals "MOST_ROWS" = some (some (.int 5 t5)))
    (zn : PySem.W.nsIn K mainGlobals "MOST_NUMBER" = some (some (.int 100000000000000000000 tn)))
    (zg : PySem.W.nsIn K mainGlobals "GREAT" = some (some (.int 1000 tg)))
    (z_isi : PySem.W.nsIn K mainGlobals "isinstance" = some none)
    (z_int : PySem.W.nsIn K mainGlobals "int" = some none)
    (z_bool : PySem.W.nsIn K mainGlobals "bool" = some none)
    (z_len : PySem.W.nsIn K mainGlobals "len" = some none)
    (z_all : PySem.W.nsIn K mainGlobals "all" = some none)
    (z_tup : PySem.W.nsIn K mainGlobals "tuple" = some none)
    (z_enum : PySem.W.nsIn K mainGlobals "enumerate" = some none)
    (z_range : PySem.W.nsIn K mainGlobals "range" = some none)
    (z_srt : PySem.W.nsIn K mainGlobals "sorted" = some none)
    (z_zip : PySem.W.nsIn K mainGlobals "zip" = some none)
    (z_dict : PySem.W.nsIn K mainGlobals "dict" = some none)
    (z_abs : PySem.W.nsIn K mainGlobals "abs" = some none)
    (z_max : PySem.W.nsIn K mainGlobals "max" = some none)
    (z_min : PySem.W.nsIn K mainGlobals "min" = some none)
    : LamX.LawAtS l w K CX0 9 63 "_law_script" mg fa h := by
  have e := hfa.symm.trans (PySem.W.mg_of X G aW)
  cases e
  obtain ⟨D0⟩ := df_mk (st := sIsInt) (ps := ["value"]) X G a0 l0 c0 k0 fun _ _ _ _ _ _ us hl => match us, hl with | [_], _ => rfl
  obtain ⟨D1⟩ := df_mk (st := sBetw) (ps := ["value", "least", "most"]) X G a1 l1 c1 k1 fun _ _ _ _ _ _ us hl => match us, hl with | [_, _, _], _ => rfl
  obtain ⟨D2⟩ := df_mk (st := sRank) (ps := ["lot"]) X G a2 l2 c2 k2 fun _ _ _ _ _ _ us hl => match us, hl with | [_], _ => rfl
  obtain ⟨D3⟩ := df_mk (st := sFault) (ps := ["value", "most"]) X G a3 l3 c3 k3 fun _ _ _ _ _ _ us hl => match us, hl with | [_, _], _ => rfl
  obtain ⟨D4⟩ := df_mk (st := sCheck) (ps := ["value"]) X G a4 l4 c4 k4 fun _ _ _ _ _ _ us hl => match us, hl with | [_], _ => rfl
  obtain ⟨D5⟩ := df_mk (st := sRings) (ps := ["many"]) X G a5 l5 c5 k5 fun _ _ _ _ _ _ us hl => match us, hl with | [_], _ => rfl
  obtain ⟨D6⟩ := df_mk (st := sWorth) (ps := ["signs", "ring"]) X G a6 l6 c6 k6 fun _ _ _ _ _ _ us hl => match us, hl with | [_, _], _ => rfl
  obtain ⟨D7⟩ := df_mk (st := sIsBad) (ps := ["signs", "ring"]) X G a7 l7 c7 k7 fun _ _ _ _ _ _ us hl => match us, hl with | [_, _], _ => rfl
  obtain ⟨D8⟩ := df_mk (st := sFirst) (ps := ["signs"]) X G a8 l8 c8 k8 fun _ _ _ _ _ _ us hl => match us, hl with | [_], _ => rfl
  obtain ⟨D9⟩ := df_mk (st := sAlways) (ps := ["signs"]) X G a9 l9 c9 k9 fun _ _ _ _ _ _ us hl => match us, hl with | [_], _ => rfl
  obtain ⟨D10⟩ := df_mk (st := sBadT) (ps := ["signs"]) X G a10 l10 c10 k10 fun _ _ _ _ _ _ us hl => match us, hl with | [_], _ => rfl
  obtain ⟨D11⟩ := df_mk (st := sCan) (ps := ["_law_script", "_law_turn"]) X G a11 l11 c11 k11 fun _ _ _ _ _ _ us hl => match us, hl with | [_, _], _ => rfl
  obtain ⟨D12⟩ := df_mk (st := sSip) (ps := ["_law_can_here", "_law_top"]) X G a12 l12 c12 k12 fun _ _ _ _ _ _ us hl => match us, hl with | [_, _], _ => rfl
  obtain ⟨D13⟩ := df_mk (st := sPick) (ps := ["_law_can_here", "_law_menu"]) X G a13 l13 c13 k13 fun _ _ _ _ _ _ us hl => match us, hl with | [_, _], _ => rfl
  obtain ⟨D14⟩ := df_mk (st := sGrid) (ps := ["_law_can_here", "_law_most", "_law_wide"]) X G a14 l14 c14 k14 fun _ _ _ _ _ _ us hl => match us, hl with | [_, _, _], _ => rfl
  obtain ⟨D15⟩ := df_mk (st := sDet) (ps := ["_law_rows"]) X G a15 l15 c15 k15 fun _ _ _ _ _ _ us hl => match us, hl with | [_], _ => rfl
  obtain ⟨D16⟩ := df_mk (st := sCut) (ps := ["_law_rows", "_law_lot"]) X G a16 l16 c16 k16 fun _ _ _ _ _ _ us hl => match us, hl with | [_, _], _ => rfl
  obtain ⟨D17⟩ := df_mk (st := sFB) (ps := ["_law_rows"]) X G a17 l17 c17 k17 fun _ _ _ _ _ _ us hl => match us, hl with | [_], _ => rfl
  obtain ⟨D18⟩ := df_mk (st := sSigns) (ps := ["_law_can_here"]) X G a18 l18 c18 k18 fun _ _ _ _ _ _ us hl => match us, hl with | [_], _ => rfl
  obtain ⟨D19⟩ := df_mk (st := sSign) (ps := ["_law_number_here"]) X G a19 l19 c19 k19 fun _ _ _ _ _ _ us hl => match us, hl with | [_], _ => rfl
  obtain ⟨D20⟩ := df_mk (st := sFilled) (ps := ["_law_can_here", "_law_signs_here"]) X G a20 l20 c20 k20 fun _ _ _ _ _ _ us hl => match us, hl with | [_, _], _ => rfl
  obtain ⟨D21⟩ := df_mk (st := sRight) (ps := ["_law_can_here"]) X G a21 l21 c21 k21 fun _ _ _ _ _ _ us hl => match us, hl with | [_], _ => rfl
  have FI := fun_mk (st := sTabI) lI cI kI
  have FE := fun_mk (st := sTabE) lE cE kE
  have bI := FI.binds (ps := ["self", "rows"]) fun _ _ _ _ _ _ us hl => match us, hl with | [_, _], _ => rfl
  have bE := FE.binds (ps := ["self", "other"]) fun _ _ _ _ _ _ us hl => match us, hl with | [_, _], _ => rfl
  have FL : FunC K "_law_lots" "_law_lots" sLots fL _ cL := ⟨⟨ocL, odL, kVL, dcL, pmL, anL, ctL, slL, rfl, lL, cL1⟩, kL⟩
  have bL := (fun_mk (st := sLots) lL cL1 kL).binds (ps := ["_law_many"]) fun _ _ _ _ _ _ us hl => match us, hl with | [_], _ => rfl
  have L : Nonempty { L : Lx K mg // L.c = cL ∧ L.P = PL } := ⟨⟨⟨fL, _, cL, PL, FL, bL, PySem.W.mg_of X G aL⟩, rfl, rfl⟩⟩
  obtain ⟨L, eLc, eLP⟩ := L
  have cl : Cls K C := ⟨pg, hd, po, sa⟩
  have T : Tx K mg := {
    dInt := D0
    dBetw := D1
    dRank := D2
    dFault := D3
    dCheck := D4
    dRings := D5
    dWorth := D6
    dIsBad := D7
    dFirst := D8
    dAlways := D9
    dBadT := D10
    dCan := D11
    dSip := D12
    dPick := D13
    dGrid := D14
    dDet := D15
    dCut := D16
    dFB := D17
    dSigns := D18
    dSign := D19
    dFilled := D20
    dRight := D21
    B := ⟨PySem.W.mg_none_of X G z_isi, PySem.W.mg_none_of X G z_int, PySem.W.mg_none_of X G z_bool, PySem.W.mg_none_of X G z_len, PySem.W.mg_none_of X G z_all, PySem.W.mg_none_of X G z_tup, PySem.W.mg_none_of X G z_enum, PySem.W.mg_none_of X G z_range, PySem.W.mg_none_of X G z_srt, PySem.W.mg_none_of X G z_zip, PySem.W.mg_none_of X G z_dict, PySem.W.mg_none_of X G z_abs, PySem.W.mg_none_of X G z_max, PySem.W.mg_none_of X G z_min⟩
    C := ⟨⟨_, PySem.W.mg_of X G zr⟩, ⟨_, PySem.W.mg_of X G zn⟩, ⟨_, PySem.W.mg_of X G zg⟩⟩
    tC := C
    gT := PySem.W.mg_of X G aT
    fI := fI
    fdI := _
    FI := FI
    bI := bI
    MT := ⟨mk, aI, iI, kc⟩
    cT := cl
    nR := nR
    iT := ⟨cl, iha, ihn, iht, ihm, ime⟩
    fE := fE
    fdE := _
    FE := FE
    bE := bE
    eqT := aE
    neT := neT
    fnE := iE }
  refine ⟨PySem.W.fnOf "law" "law" (defArgs sLaw) (defBody sLaw) (defScope sLaw) .none kVW dcW pmW anW cdW ctW, [(cL, PL)], spLaw K PL, fun p hp => ?_, fun p hp => ?_, fun p hp => ?_, fun s u => .of_eq rfl, fun H b ns hl _ hP hS => ?_, fun base _ _ hT => ?_⟩
  · rw [List.mem_singleton.mp hp]
    exact hPL
  · rw [List.mem_singleton.mp hp]
    exact nL
  · rw [List.mem_singleton.mp hp]
    exact PySem.W.codeHd_of_K X tL
  · exact ⟨b, ns, rfl, hS, ⟨#[], hP (cL, PL) List.mem_cons_self, by simp [PySem.TriplesOk], fun pos cv z => by simp [PySem.codeAmong] at z⟩, fun _ => rfl⟩
  · have TB := hT (cL, PL) List.mem_cons_self
    rw [← eLc, ← eLP] at TB
    rw [← eLP]
    exact ok_law T L TB (fun_mk (st := sLaw) lW cW kW)
end Ow
set_option Elab.async false
set_option maxRecDepth 100000
open L2

open PySem PySem.W PyProof.Rows in
set_option maxRecDepth 100000 in
set_option maxHeartbeats 0 in
theorem PySem.Challenge.cw_onlyanswer_k10_whole_tables_by_signs_holds : PySem.Challenge.rw_onlyanswer_k10_whole_tables_by_signs.Holds := by
  w_on; o_law; k_head; (case hw => w_witness2)
  k_fill
  refine LamX.walk_ofTs (l := PySem.Challenge.rw_onlyanswer_k10_whole_tables_by_signs) (n := 63) (k := 9) (x := "_law_script") (CX := fun _ => CX0) rfl (by decide) rfl ⟨rfl, by decide, by decide⟩ (fun w h Y => PySem.W.km_in_of Y) ?F (fun _ _ _ _ _ z => z)
  case F =>
    intro w mg fa h Y KX G hmg
    refine' Ow.all_mk KX G hmg (PySem.W.km_tabs_of Y _ List.mem_cons_self) ?a0 ?l0 ?c0 ?k0 ?a1 ?l1 ?c1 ?k1 ?a2 ?l2 ?c2 ?k2 ?a3 ?l3 ?c3 ?k3 ?a4 ?l4 ?c4 ?k4 ?a5 ?l5 ?c5 ?k5 ?a6 ?l6 ?c6 ?k6 ?a7 ?l7 ?c7 ?k7 ?a8 ?l8 ?c8 ?k8 ?a9 ?l9 ?c9 ?k9 ?a10 ?l10 ?c10 ?k10 ?a11 ?l11 ?c11 ?k11 ?a12 ?l12 ?c12 ?k12 ?a13 ?l13 ?c13 ?k13 ?a14 ?l14 ?c14 ?k14 ?a15 ?l15 ?c15 ?k15 ?a16 ?l16 ?c16 ?k16 ?a17 ?l17 ?c17 ?k17 ?a18 ?l18 ?c18 ?k18 ?a19 ?l19 ?c19 ?k19 ?a20 ?l20 ?c20 ?k20 ?a21 ?l21 ?c21 ?k21 ?aL ?lL ?cL1 ?kL ?tL ?nL ?aW ?lW ?cW ?kW ?aT ?aI ?iI ?lI ?cI ?kI ?aE ?iE ?lE ?cE ?kE ?pg ?hd ?po ?sa ?mk ?kc ?nR ?neT ?iha ?ihn ?iht ?ihm ?ime ?zr ?zn ?zg ?z_isi ?z_int ?z_bool ?z_len ?z_all ?z_tup ?z_enum ?z_range ?z_srt ?z_zip ?z_dict ?z_abs ?z_max ?z_min
    (case a0 => k_is)
    (case l0 => k_is)
    (case c0 => k_is)
    (case k0 => k_is)
    (case a1 => k_is)
    (case l1 => k_is)
    (case c1 => k_is)
    (case k1 => k_is)
    (case a2 => k_is)
    (case l2 => k_is)
    (case c2 => k_is)
    (case k2 => k_is)
    (case a3 => k_is)
    (case l3 => k_is)
    (case c3 => k_is)
    (case k3 => k_is)
    (case a4 => k_is)
    (case l4 => k_is)
    (case c4 => k_is)
    (case k4 => k_is)
    (case a5 => k_is)
    (case l5 => k_is)
    (case c5 => k_is)
    (case k5 => k_is)
    (case a6 => k_is)
    (case l6 => k_is)
    (case c6 => k_is)
    (case k6 => k_is)
    (case a7 => k_is)
    (case l7 => k_is)
    (case c7 => k_is)
    (case k7 => k_is)
    (case a8 => k_is)
    (case l8 => k_is)
    (case c8 => k_is)
    (case k8 => k_is)
    (case a9 => k_is)
    (case l9 => k_is)
    (case c9 => k_is)
    (case k9 => k_is)
    (case a10 => k_is)
    (case l10 => k_is)
    (case c10 => k_is)
    (case k10 => k_is)
    (case a11 => k_is)
    (case l11 => k_is)
    (case c11 => k_is)
    (case k11 => k_is)
    (case a12 => k_is)
    (case l12 => k_is)
    (case c12 => k_is)
    (case k12 => k_is)
    (case a13 => k_is)
    (case l13 => k_is)
    (case c13 => k_is)
    (case k13 => k_is)
    (case a14 => k_is)
    (case l14 => k_is)
    (case c14 => k_is)
    (case k14 => k_is)
    (case a15 => k_is)
    (case l15 => k_is)
    (case c15 => k_is)
    (case k15 => k_is)
    (case a16 => k_is)
    (case l16 => k_is)
    (case c16 => k_is)
    (case k16 => k_is)
    (case a17 => k_is)
    (case l17 => k_is)
    (case c17 => k_is)
    (case k17 => k_is)
    (case a18 => k_is)
    (case l18 => k_is)
    (case c18 => k_is)
    (case k18 => k_is)
    (case a19 => k_is)
    (case l19 => k_is)
    (case c19 => k_is)
    (case k19 => k_is)
    (case a20 => k_is)
    (case l20 => k_is)
    (case c20 => k_is)
    (case k20 => k_is)
    (case a21 => k_is)
    (case l21 => k_is)
    (case c21 => k_is)
    (case k21 => k_is)
    (case aL => k_is)
    (case lL => k_is)
    (case cL1 => k_is)
    (case kL => k_is)
    (case tL => kernel_rfl)
    (case nL => kernel_rfl)
    (case aW => k_is)
    (case lW => k_is)
    (case cW => k_is)
    (case kW => k_is)
    (case aT => k_is)
    (case aI => k_is)
    (case iI => k_is)
    (case lI => k_is)
    (case cI => k_is)
    (case kI => k_is)
    (case aE => k_is)
    (case iE => k_is)
    (case lE => k_is)
    (case cE => k_is)
    (case kE => k_is)
    (case pg => k_is)
    (case hd => k_is)
    (case po => k_is)
    (case sa => k_is)
    (case mk => k_is)
    (case kc => k_is)
    (case nR => k_is)
    (case neT => k_is)
    (case iha => k_is)
    (case ihn => k_is)
    (case iht => k_is)
    (case ihm => k_is)
    (case ime => kernel_rfl)
    (case zr => k_is)
    (case zn => k_is)
    (case zg => k_is)
    (case z_isi => k_is)
    (case z_int => k_is)
    (case z_bool => k_is)
    (case z_len => k_is)
    (case z_all => k_is)
    (case z_tup => k_is)
    (case z_enum => k_is)
    (case z_range => k_is)
    (case z_srt => k_is)
    (case z_zip => k_is)
    (case z_dict => k_is)
    (case z_abs => k_is)
    (case z_max => k_is)
    (case z_min => k_is)
