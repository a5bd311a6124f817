import PyProof.Rows.All
import Wide.All
import OpenK.AllK
import Wide.FinOn
import PySem.Challenge.RW_no0312_01
set_option Elab.async false
section
set_option linter.unusedVariables false
set_option maxHeartbeats 400000
namespace Mine
theorem tn201 {i j : Int} (h1 : (-100 : Int) ≤ i) (h2 : j ≤ 100) : Int.toNat (j + 1 - i) ≤ 201 := Int.toNat_le.mpr (Int.le_trans (Int.sub_le_sub (Int.add_le_add_right h2 1) h1) (by decide))
theorem tn2m {i0 i1 : Int} (h0 : -1000000 ≤ i0 ∧ i0 ≤ 1000000) (h1 : -1000000 ≤ i1 ∧ i1 ≤ 1000000) : Int.toNat (i1 - i0) ≤ 2000000 := Int.toNat_le.mpr (Int.le_trans (Int.sub_le_sub h1.2 h0.1) (by decide))
theorem ix0 {n0 : Nat} {i1 : Int} {p : Prop} (h0 : n0 ≤ 1000000) (h1 : -(n0 : Int) ≤ i1 ∧ p) : -((2 : Int) ^ 62) ≤ i1 := Int.le_trans (Int.le_trans (by decide : _ ≤ -((1000000 : Nat) : Int)) (Int.neg_le_neg (Int.ofNat_le.mpr h0))) h1.1
theorem ix1 {n0 : Nat} {i1 : Int} {p : Prop} (h0 : n0 ≤ 1000000) (h1 : -(n0 : Int) ≤ i1 ∧ p) : -((2 : Int) ^ 63) ≤ i1 := Int.le_trans (by decide) (ix0 h0 h1)
theorem ix2 {n0 : Nat} {i1 : Int} {p q : Prop} (h0 : n0 ≤ 1000000) (h1 : q ∧ i1 < (n0 : Int) ∧ p) : i1 < (2 : Int) ^ 63 := Int.lt_of_lt_of_le h1.2.1 (Int.le_trans (Int.ofNat_le.mpr h0) (by decide))
theorem ar0 {n0 : Nat} {n1 : Nat} (h0 : (((n0 + (n1 + 1)) : Nat) ≤ 1000000)) : (((n0 + n1) : Nat) ≤ 1000000) := Nat.le_trans (Nat.add_le_add_left (Nat.le_add_right _ _) _) h0
theorem ar1 {n0 : Nat} {n1 : Nat} (h0 : (((n0 + n1) : Nat) ≤ 1000000)) : ((n0 : Nat) ≤ 1000000) := Nat.le_of_add_right_le h0
theorem ar2 {n0 : Nat} {n1 : Nat} (h0 : (((n0 + (n1 + 1)) : Nat) ≤ 1000000)) : ((((n0 + 1) + n1) : Nat) ≤ 1000000) := Nat.le_trans (Nat.le_of_eq (Nat.succ_add_eq_add_succ _ _)) h0
theorem ar3 {n0 : Nat} {n1 : Nat} {n2 : Nat} (h0 : ((n0 : Nat) = n1)) (h1 : (¬ ((n2 : Nat) < n1))) : ((n0 : Nat) ≤ n2) := Nat.le_trans (Nat.le_of_eq h0) (Nat.not_lt.mp h1)
theorem ar4 {n0 : Nat} {n1 : Nat} (h0 : (¬ ((n0 : Nat) < n1))) : ((n1 : Nat) ≤ n0) := Nat.not_lt.mp h0
theorem ar5 {n0 : Nat} (h0 : ((n0 : Nat) ≤ 99)) : ((n0 : Nat) ≤ 100) := Nat.le_succ_of_le (h0)
theorem ar6 {n0 : Nat} (h0 : ((n0 : Nat) ≤ 100)) : ((n0 : Nat) ≤ 999999) := Nat.le_trans (h0) (by decide)
theorem ar7 : ((0 : Int) ≤ (0 : Int)) := Int.ofNat_nonneg _
theorem ar8 {n0 : Nat} (h0 : ((n0 : Nat) ≤ 1000)) : ((n0 : Nat) ≤ 1000000) := Nat.le_trans (h0) (by decide)
theorem ar9 {n0 : Nat} : ((0 : Int) ≤ ((n0 : Nat) : Int)) := Int.natCast_nonneg _
theorem ar10 {n0 : Nat} {n1 : Nat} (h0 : ((n0 : Nat) < n1)) : ((n0 : Nat) < n1) := h0
theorem ar11 : ((-1 : Int) < (0 : Int)) := Int.ofNat_nonneg _
theorem ar12 {n0 : Nat} (h0 : ((0 : Nat) < n0)) : ((1 : Int) ≤ ((n0 : Nat) : Int)) := Int.ofNat_le.mpr (h0)
theorem ar13 {n0 : Nat} : (((Int.toNat ((-(1 : Int)) + ((n0 : Nat) : Int))) : Nat) = (n0 - 1)) := (congrArg Int.toNat (Int.add_comm _ _)).trans (Int.toNat_sub n0 1)
theorem ar14 {n0 : Nat} (h0 : ((0 : Nat) < n0)) : (((n0 - 1) : Nat) < n0) := Nat.pred_lt (Nat.ne_of_gt h0)
theorem ar15 {n0 : Nat} (h0 : ((2 : Nat) ≤ n0)) : ((0 : Nat) < n0) := Nat.le_of_succ_le h0
theorem ar16 {i0 : Int} (h0 : ((0 : Int) < i0)) : ((0 : Int) ≤ i0) := Int.le_of_lt (h0)
theorem ar17 {i0 : Int} {n1 : Nat} {n2 : Nat} (h0 : ((i0 : Int) < (((n1 : Nat) : Int) - (1 : Int)))) (h1 : ((i0 : Int) = ((n2 : Nat) : Int))) : ((n2 : Nat) < n1) := Int.ofNat_lt.mp (h1 ▸ Int.lt_trans h0 (Int.sub_lt_self _ (by decide)))
theorem ar18 {i0 : Int} {n1 : Nat} (h0 : ((0 : Int) < i0)) (h1 : ((i0 : Int) = ((n1 : Nat) : Int))) : ((1 : Int) ≤ ((n1 : Nat) : Int)) := h1 ▸ h0
theorem ar19 {i0 : Int} {n1 : Nat} {n2 : Nat} (h0 : ((i0 : Int) < (((n1 : Nat) : Int) - (1 : Int)))) (h1 : ((i0 : Int) = ((n2 : Nat) : Int))) : ((((n2 : Nat) : Int) : Int) ≤ (((n1 : Nat) : Int) - (2 : Int))) := h1 ▸ Int.le_sub_one_of_lt h0 |> fun h => Int.le_trans h (Int.le_of_eq (Int.sub_sub _ _ _))
theorem ar20 {i0 : Int} {n1 : Nat} (h0 : (¬ ((i0 : Int) < (((n1 : Nat) : Int) - (1 : Int))))) : (¬ ((i0 : Int) ≤ (((n1 : Nat) : Int) - (2 : Int)))) := by lia
theorem ar21 {i0 : Int} (h0 : (¬ ((0 : Int) < i0))) : (¬ ((1 : Int) ≤ i0)) := h0
theorem ar22 {i0 : Int} (h0 : ((1 : Int) ≤ i0)) : ((0 : Int) ≤ i0) := Int.le_of_lt (h0)
theorem ar23 {i0 : Int} {n1 : Nat} {n2 : Nat} (h0 : ((i0 : Int) ≤ (((n1 : Nat) : Int) - (2 : Int)))) (h1 : ((i0 : Int) = ((n2 : Nat) : Int))) : ((n2 : Nat) < n1) := Int.ofNat_lt.mp (h1 ▸ Int.lt_of_le_of_lt h0 (Int.sub_lt_self _ (by decide)))
theorem ar24 {i0 : Int} {n1 : Nat} (h0 : ((1 : Int) ≤ i0)) (h1 : ((i0 : Int) = ((n1 : Nat) : Int))) : ((1 : Int) ≤ ((n1 : Nat) : Int)) := h1 ▸ h0
theorem ar25 {i0 : Int} {n1 : Nat} {n2 : Nat} (h0 : ((i0 : Int) ≤ (((n1 : Nat) : Int) - (2 : Int)))) (h1 : ((i0 : Int) = ((n2 : Nat) : Int))) : ((((n2 : Nat) : Int) : Int) ≤ (((n1 : Nat) : Int) - (2 : Int))) := h1 ▸ h0
theorem ar26 {i0 : Int} {n1 : Nat} (h0 : (¬ ((i0 : Int) ≤ (((n1 : Nat) : Int) - (2 : Int))))) : (¬ ((i0 : Int) ≤ (((n1 : Nat) : Int) - (2 : Int)))) := h0
theorem ar27 {i0 : Int} (h0 : (¬ ((1 : Int) ≤ i0))) : (¬ ((1 : Int) ≤ i0)) := h0
theorem ar28 : ((0 : Nat) ≤ 1000) := Nat.zero_le _
theorem ar29 : (((0 + 1) : Nat) ≤ 1000) := Nat.succ_pos _
theorem ar30 : ((((0 + 1) + 1) : Nat) ≤ 1000) := Nat.le_add_left _ _
theorem ar31 {n0 : Nat} {n1 : Nat} {n2 : Nat} (h0 : ((((n0 + (4 * (n1 + 2))) + 4) : Nat) < n2)) : ((n0 : Nat) < n2) := Nat.lt_of_le_of_lt (Nat.le_trans (Nat.le_add_right _ _) (Nat.le_add_right _ _)) h0
theorem ar32 {n0 : Nat} {n1 : Nat} {n2 : Nat} (h0 : ((((n0 + (4 * (n1 + 2))) + 4) : Nat) < n2)) : (((((n0 + 1) + (4 * (n1 + 1))) + 4) : Nat) < n2) := Nat.lt_of_le_of_lt (Nat.add_le_add_right (Nat.le_trans (Nat.le_of_eq (Nat.add_right_comm _ _ _)) (Nat.add_le_add_left (by decide : 1 ≤ 4) _)) 4) h0
theorem ar33 {n0 : Nat} {n1 : Nat} {n2 : Nat} (h0 : (((n0 + (100 * ((n1 + 2) + 1))) : Nat) < n2)) : ((((n0 + 3) + (100 * ((n1 + 1) + 1))) : Nat) < n2) := Nat.lt_of_le_of_lt (Nat.le_trans (Nat.le_of_eq (Nat.add_right_comm _ _ _)) (Nat.add_le_add_left (by decide : 3 ≤ 100) _)) (Nat.lt_of_le_of_lt (Nat.le_of_eq rfl) h0)
theorem ar34 {n0 : Nat} (h0 : ((n0 : Nat) ≤ 100)) : (((1 + n0) : Nat) ≤ 10000) := Nat.le_trans (Nat.add_le_add_left (h0) _) (by decide)
theorem ar35 {n0 : Nat} (h0 : ((n0 : Nat) ≤ 100)) : ((n0 : Nat) ≤ 9998) := Nat.le_trans (h0) (by decide)
theorem ar36 : ((3 : Nat) ≤ 1000) := Nat.le_add_left _ _
theorem ar37 : (((3 + 1) : Nat) ≤ 1000) := Nat.le_add_left _ _
theorem ar38 : ((((3 + 1) + 1) : Nat) ≤ 1000) := Nat.le_add_left _ _
theorem ar39 {n0 : Nat} (h0 : ((n0 : Nat) ≤ 50)) : ((n0 : Nat) ≤ 100) := Nat.le_trans (h0) (by decide)
theorem ar40 {n0 : Nat} {n1 : Nat} {n2 : Nat} (h0 : ((n0 : Nat) ≤ 1)) (h1 : ((n1 : Nat) ≤ n2)) : (((n0 + n1) : Nat) ≤ (n2 + 1)) := Nat.le_trans (Nat.add_le_add h0 h1) (Nat.le_of_eq (Nat.add_comm _ _))
theorem ar41 {n0 : Nat} (h0 : (((2 : Nat) ≤ n0) ∧ ((n0 : Nat) ≤ 3))) : (((n0 + 2) : Nat) ≤ 900) := Nat.le_trans (Nat.add_le_add_right (h0.2) _) (by decide)
theorem ar42 {n0 : Nat} (h0 : ((n0 : Nat) ≤ 900)) : ((n0 : Nat) ≤ 1000) := Nat.le_trans (h0) (by decide)
theorem ar43 {n0 : Nat} : (((n0 + 1) : Nat) < (n0 + 2)) := Nat.lt_succ_self _
theorem ar44 {n0 : Nat} : ((1 : Nat) ≤ (n0 + 1)) := Nat.succ_pos _
theorem ar45 {n0 : Nat} {n1 : Nat} {n2 : Nat} (h0 : ((n0 : Nat) ≤ 3)) (h1 : ((n0 : Nat) = (n1 + (n2 + 1)))) : ((n1 : Nat) ≤ 3) := Nat.le_trans (Nat.le_trans (Nat.le_add_right _ _) (Nat.le_of_eq h1.symm)) h0
theorem ar46 {n0 : Nat} {n1 : Nat} {n2 : Nat} (h0 : ((n0 : Nat) ≤ 3)) (h1 : ((n1 : Nat) ≤ n0)) (h2 : ((n2 : Nat) ≤ 1)) : (((n1 + n2) : Nat) ≤ 1000000) := Nat.le_trans (Nat.add_le_add (Nat.le_trans h1 h0) h2) (by decide)
theorem ar47 {i0 : Int} {n1 : Nat} : ((((i0 + (1 : Int)) + ((n1 : Nat) : Int)) : Int) = (i0 + (((n1 : Nat) : Int) + (1 : Int)))) := by simp +arith
theorem ar48 {n0 : Nat} : ((((1 : Int) + ((n0 : Nat) : Int)) : Int) = (((n0 : Nat) : Int) + (1 : Int))) := Int.add_comm _ _
theorem ar49 {n0 : Nat} (h0 : ((n0 : Nat) ≤ 50)) : ((n0 : Nat) ≤ 1000000) := Nat.le_trans (h0) (by decide)
theorem ar50 {n0 : Nat} (h0 : ((1 : Nat) ≤ n0)) : ((0 : Int) ≤ (((n0 : Nat) : Int) - (1 : Int))) := Int.sub_nonneg_of_le (Int.ofNat_le.mpr h0)
theorem ar51 {n0 : Nat} {n1 : Nat} (h0 : ((n0 : Nat) ≤ n1)) : (((((n0 : Nat) : Int) - (1 : Int)) : Int) < ((n1 : Nat) : Int)) := Int.lt_of_lt_of_le (Int.sub_lt_self _ (by decide)) (Int.ofNat_le.mpr h0)
theorem ar52 {n0 : Nat} : (((Int.toNat (((n0 : Nat) : Int) - (1 : Int))) : Nat) = (n0 - 1)) := by simp_all
theorem ar53 {n0 : Nat} {n1 : Nat} (h0 : ((1 : Nat) ≤ n0)) (h1 : ((n0 : Nat) ≤ n1)) : (((n0 - 1) : Nat) < n1) := Nat.lt_of_lt_of_le (Nat.pred_lt (Nat.ne_of_gt h0)) h1
theorem ar54 {n0 : Nat} (h0 : ((1 : Nat) ≤ n0)) : ((((((n0 - 1) : Nat) : Int) + (1 : Int)) : Int) = ((n0 : Nat) : Int)) := congrArg Nat.cast (Nat.sub_add_cancel h0)
theorem ar55 : (((-((2 : Int) ^ 62)) : Int) ≤ (1 : Int)) := Int.natCast_nonneg _
theorem ar56 : ((1 : Int) < ((2 : Int) ^ 62)) := Int.natCast_nonneg _
theorem ar57 {n0 : Nat} : (((-((2 : Int) ^ 62)) : Int) ≤ (((n0 : Nat) : Int) + (1 : Int))) := Int.le_trans (by decide : -((2 : Int) ^ 62) ≤ 0) (Int.add_nonneg (Int.natCast_nonneg _) (by decide))
theorem ar58 {n0 : Nat} (h0 : ((n0 : Nat) ≤ 50)) : (((((n0 : Nat) : Int) + (1 : Int)) : Int) < ((2 : Int) ^ 62)) := Int.lt_of_le_of_lt (Int.add_le_add_right (Int.ofNat_le.mpr h0) 1) (by decide)
theorem ar59 {n0 : Nat} : ((((((n0 : Nat) : Int) + (1 : Int)) - (1 : Int)) : Int) = ((n0 : Nat) : Int)) := (Int.add_sub_cancel _ _)
theorem ar60 {n0 : Nat} (h0 : (¬ ((1 : Int) < (((n0 : Nat) : Int) + (1 : Int))))) : ((0 : Int) = ((n0 : Nat) : Int)) := (Int.le_antisymm (Int.le_of_add_le_add_right (Int.not_lt.mp h0)) (Int.natCast_nonneg _)).symm
theorem ar61 {n0 : Nat} (h0 : ((n0 : Nat) ≤ 3)) : ((n0 : Nat) ≤ 1000000) := Nat.le_trans (h0) (by decide)
theorem ar62 {n0 : Nat} (h0 : ((n0 : Nat) ≤ 3)) : ((n0 : Nat) ≤ 50) := Nat.le_trans (h0) (by decide)
theorem ar63 {n0 : Nat} (h0 : ((n0 : Nat) ≤ 3)) : ((n0 : Nat) ≤ 3) := by simp_all
theorem ar64 {n0 : Nat} {n1 : Nat} (h0 : ((n0 : Nat) < n1)) : (((1 : Nat) ≤ (n0 + 1)) ∧ (((n0 + 1) : Nat) ≤ n1)) := ⟨Nat.succ_pos _, h0⟩
theorem ar65 {n0 : Nat} : ((0 : Nat) < (n0 + 2)) := Nat.succ_pos _
theorem ar66 {n0 : Nat} {n1 : Nat} (h0 : ((n0 : Nat) ≤ n1)) : ((n0 : Nat) < (n1 + 2)) := Nat.lt_of_le_of_lt (h0) (Nat.lt_add_of_pos_right (by decide))
theorem ar67 {i0 : Int} (h0 : (((-3 : Int) ≤ i0) ∧ ((i0 : Int) ≤ (6 : Int)))) : (((-100 : Int) ≤ i0) ∧ ((i0 : Int) ≤ (100 : Int))) := ⟨Int.le_trans (by decide) (h0).1, Int.le_trans (h0).2 (by decide)⟩
theorem ar68 {n0 : Nat} {n1 : Nat} (h0 : (((n0 + n1) : Nat) ≤ 14)) : ((n0 : Nat) ≤ 1000) := Nat.le_trans (Nat.le_of_add_right_le h0) (by decide)
theorem ar69 {n0 : Nat} {n1 : Nat} {n2 : Nat} (h0 : (((n0 + n1) : Nat) ≤ 14)) (h1 : ((n2 : Nat) ≤ n0)) : ((n2 : Nat) ≤ 1000) := Nat.le_trans (h1) (Nat.le_trans (Nat.le_of_add_right_le h0) (by decide))
theorem ar70 : (((-3 : Int) ≤ (1 : Int)) ∧ ((1 : Int) ≤ (6 : Int))) := by decide
theorem ar71 {n0 : Nat} (h0 : (((2 : Nat) ≤ n0) ∧ ((n0 : Nat) ≤ 3))) : ((n0 : Nat) ≤ 1000000) := Nat.le_trans (h0.2) (by decide)
theorem ar72 {n0 : Nat} (h0 : (((2 : Nat) ≤ n0) ∧ ((n0 : Nat) ≤ 3))) : (((-3 : Int) ≤ ((n0 : Nat) : Int)) ∧ ((((n0 : Nat) : Int) : Int) ≤ (6 : Int))) := ⟨Int.le_trans (by decide) (Int.natCast_nonneg _), Int.le_trans (Int.ofNat_le.mpr h0.2) (by decide)⟩
theorem ar73 {i0 : Int} (h0 : ((1 : Int) ≤ i0)) : ((i0 : Int) = (((Int.toNat i0) : Nat) : Int)) := (Int.toNat_of_nonneg (Int.le_trans (by decide) h0)).symm
theorem ar74 {i0 : Int} (h0 : ((1 : Int) ≤ i0)) : ((1 : Nat) ≤ (Int.toNat i0)) := Int.le_toNat (Int.le_trans (by decide) h0) |>.mpr h0
theorem ar75 {i0 : Int} {n1 : Nat} (h0 : ((i0 : Int) ≤ ((n1 : Nat) : Int))) : (((Int.toNat i0) : Nat) ≤ n1) := by simp_all
theorem ar76 {n0 : Nat} (h0 : (((2 : Nat) ≤ n0) ∧ ((n0 : Nat) ≤ 3))) : ((n0 : Nat) ≤ 50) := Nat.le_trans (h0.2) (by decide)
theorem ar77 {n0 : Nat} {n1 : Nat} (h0 : (((2 : Nat) ≤ n0) ∧ ((n0 : Nat) ≤ 3))) (h1 : ((n1 : Nat) ≤ n0)) : (((-3 : Int) ≤ ((n1 : Nat) : Int)) ∧ ((((n1 : Nat) : Int) : Int) ≤ (6 : Int))) := ⟨Int.le_trans (by decide) (Int.natCast_nonneg _), Int.le_trans (Int.ofNat_le.mpr (Nat.le_trans h1 h0.2)) (by decide)⟩
theorem ar78 {n0 : Nat} (h0 : ((n0 : Nat) ≤ 3)) : ((n0 : Nat) ≤ 900) := Nat.le_trans (h0) (by decide)
theorem ar79 {i0 : Int} {i1 : Int} {i2 : Int} {p3 : Prop} (h0 : ((i0 : Int) = i1)) (h1 : ((i2 : Int) = i1)) (h2 : ((i0 : Int) < i2)) : p3 := by simp_all
theorem ar80 {n0 : Nat} (h0 : ((n0 : Nat) ≤ 6)) : ((n0 : Nat) ≤ 1000000) := Nat.le_trans (h0) (by decide)
theorem ar81 {i0 : Int} (h0 : (((-1 : Int) ≤ i0) ∧ ((i0 : Int) ≤ (4 : Int)))) : (((-3 : Int) ≤ i0) ∧ ((i0 : Int) ≤ (6 : Int))) := ⟨Int.le_trans (by decide) (h0).1, Int.le_trans (h0).2 (by decide)⟩
theorem ar82 {n0 : Nat} {n1 : Nat} (h0 : ((((n0 : Nat) : Int) : Int) = ((n1 : Nat) : Int))) : ((n1 : Nat) = n0) := Int.ofNat_inj.mp h0 ▸ rfl
theorem ar83 {n0 : Nat} (h0 : ((n0 : Nat) ≤ 1)) : ((((0 + 1) + n0) : Nat) ≤ 10000) := Nat.le_trans (Nat.add_le_add_left (h0) _) (by decide)
theorem ar84 {n0 : Nat} (h0 : ((n0 : Nat) ≤ 1)) : (((n0 + 1) : Nat) ≤ 3) := Nat.lt_of_le_of_lt (h0) (by decide)
theorem ar85 {n0 : Nat} (h0 : (((2 : Nat) ≤ n0) ∧ ((n0 : Nat) ≤ 3))) : ((n0 : Nat) ≤ 998) := Nat.le_trans (h0.2) (by decide)
theorem ar86 {n0 : Nat} : ((-1 : Int) ≠ ((n0 : Nat) : Int)) := by simp +arith
theorem ar87 {n0 : Nat} {n1 : Nat} (h0 : ((n0 : Nat) = (n1 + 1))) : ((0 : Nat) < n0) := Nat.lt_of_sub_eq_succ (h0)
theorem ar88 {n0 : Nat} {n1 : Nat} {n2 : Nat} (h0 : ((n0 : Nat) = (n1 + 1))) (h1 : ((n2 : Nat) < n1)) : (((n2 + 1) : Nat) < n0) := by (subst h0; exact Nat.lt_succ_of_le (h1))
theorem ar89 {n0 : Nat} {n1 : Nat} (h0 : ((n0 : Nat) < n1)) : ((((n1 : Nat) : Int) : Int) ≠ ((n0 : Nat) : Int)) := fun h => absurd (Int.ofNat_inj.mp h) (Nat.ne_of_gt h0)
theorem ar90 {n0 : Nat} (h0 : ((1 : Nat) ≤ n0)) : ((n0 : Nat) = ((n0 - 1) + 1)) := (Nat.sub_add_cancel (h0)).symm
theorem ar91 {n0 : Nat} (h0 : ((2 : Nat) ≤ n0)) : ((n0 : Nat) = ((n0 - 1) + 1)) := (Nat.sub_add_cancel (Nat.le_of_succ_le h0)).symm
theorem ar92 {n0 : Nat} (h0 : ((2 : Nat) ≤ (n0 + 1))) : ((1 : Nat) ≤ n0) := Nat.lt_of_succ_lt_succ h0
theorem ar93 : ((1 : Nat) ≤ 9) := Nat.succ_pos _
theorem ar94 : ((2 : Nat) ≤ 9) := Nat.le_add_left _ _
theorem ar95 : (((-((2 : Int) ^ 62)) : Int) ≤ (0 : Int)) := Int.natCast_nonneg _
theorem ar96 : ((0 : Int) < ((2 : Int) ^ 62)) := Int.ofNat_nonneg _
theorem ar97 {n0 : Nat} : (((-((2 : Int) ^ 62)) : Int) ≤ ((n0 : Nat) : Int)) := Int.le_trans (by decide : -((2 : Int) ^ 62) ≤ 0) (Int.natCast_nonneg _)
theorem ar98 {n0 : Nat} (h0 : ((n0 : Nat) ≤ 1000)) : ((((n0 : Nat) : Int) : Int) < ((2 : Int) ^ 62)) := Int.lt_of_le_of_lt (Int.ofNat_le.mpr h0) (by decide)
theorem ar99 {n0 : Nat} : (((((n0 : Nat) : Int) - (0 : Int)) : Int) = ((n0 : Nat) : Int)) := Int.natCast_add _ _
theorem ar100 {n0 : Nat} (h0 : (¬ ((0 : Int) < ((n0 : Nat) : Int)))) : ((0 : Int) = ((n0 : Nat) : Int)) := by simp_all
theorem ar101 {n0 : Nat} : (((0 + n0) : Nat) = n0) := Nat.zero_add _
theorem ar102 {n0 : Nat} (h0 : ((n0 : Nat) ≤ 5)) : ((n0 : Nat) ≤ 1000) := Nat.le_trans (h0) (by decide)
theorem ar103 {n0 : Nat} (h0 : (((n0 : Nat) = 2) ∨ (((n0 : Nat) = 3) ∨ ((n0 : Nat) = 5)))) : ((((n0 : Nat) : Int) : Int) ≠ (0 : Int)) := by (rcases h0 with h0 | h0 | h0 <;> subst h0 <;> decide)
theorem ar104 : ((2 : Int) ≠ (0 : Int)) := (Int.ofNat_ne_zero.mpr (Nat.succ_ne_zero _))
theorem ar105 {n0 : Nat} {n1 : Nat} {n2 : Nat} {n3 : Nat} (h0 : ((n0 : Nat) ≤ 5)) (h1 : ((n1 : Nat) ≤ n2)) (h2 : (((n2 + (n3 + 1)) : Nat) = n0)) : ((n1 : Nat) ≤ 1000000) := Nat.le_trans h1 (Nat.le_trans (Nat.le_add_right _ _) (Nat.le_trans (Nat.le_of_eq h2) (Nat.le_trans h0 (by decide))))
theorem ar106 {n0 : Nat} {n1 : Nat} (h0 : ((n0 : Nat) ≤ n1)) : ((n0 : Nat) ≤ n1) := h0
theorem ar107 {n0 : Nat} {n1 : Nat} (h0 : ((n0 : Nat) ≤ n1)) : ((n0 : Nat) ≤ (n1 + 1)) := Nat.le_succ_of_le (h0)
theorem ar108 : (((2 : Int) = (2 : Int)) ∨ (((2 : Int) = (6 : Int)) ∨ (((2 : Int) = (7 : Int)) ∨ (((2 : Int) = (29 : Int)) ∨ (((2 : Int) = (40 : Int)) ∨ (((2 : Int) = (1 : Int)) ∨ (((2 : Int) = (3 : Int)) ∨ ((2 : Int) = (4 : Int))))))))) := .inl rfl
theorem ar109 {n0 : Nat} {n1 : Nat} {n2 : Nat} (h0 : (((n0 + (n1 + 1)) : Nat) = n2)) : ((((n0 + 1) + n1) : Nat) = n2) := (Nat.succ_add_eq_add_succ _ _).trans h0
theorem ar110 {n0 : Nat} {n1 : Nat} {n2 : Nat} (h0 : ((n0 : Nat) ≤ (n1 + ((n2 - 1) + 1)))) : ((n0 : Nat) ≤ ((n1 + 1) + n2)) := (Nat.eq_zero_or_pos n2).elim (fun h => by rw [h] at h0 ⊢; exact h0) (fun h => by rw [Nat.sub_add_cancel h] at h0; exact Nat.le_trans h0 (Nat.add_le_add_right (Nat.le_succ _) _))
theorem ar111 {n0 : Nat} {n1 : Nat} {n2 : Nat} (h0 : ((n0 : Nat) ≤ (n1 + (n2 + 1)))) : ((n0 : Nat) ≤ ((n1 + 1) + n2)) := Nat.le_trans h0 (Nat.le_of_eq (Nat.succ_add_eq_add_succ _ _).symm)
theorem ar112 {n0 : Nat} {n1 : Nat} {n2 : Nat} (h0 : ((n0 : Nat) ≤ (n1 + 1))) : ((n0 : Nat) ≤ ((n1 + 1) + n2)) := Nat.le_trans (h0) (Nat.le_add_right _ _)
theorem ar113 {n0 : Nat} {n1 : Nat} (h0 : (((n0 + n1) : Nat) ≤ 10)) : ((n0 : Nat) ≤ 1000000) := Nat.le_trans (Nat.le_of_add_right_le h0) (by decide)
theorem ar114 {n0 : Nat} {n1 : Nat} (h0 : (((n0 + (n1 + 1)) : Nat) ≤ 10)) : ((n0 : Nat) ≤ 1000000) := Nat.le_trans (Nat.le_of_add_right_le h0) (by decide)
theorem ar115 {n0 : Nat} {n1 : Nat} (h0 : (((n0 + (n1 + 1)) : Nat) ≤ 10)) : (((((n0 - 1) + 1) + n1) : Nat) ≤ 10) := (Nat.eq_zero_or_pos n0).elim (fun h => by rw [h] at h0 ⊢; exact Nat.le_trans (Nat.le_of_eq (Nat.add_comm _ _)) (Nat.le_trans (Nat.le_add_left _ 0) h0)) (fun h => by rw [Nat.sub_add_cancel h]; exact Nat.le_trans (Nat.add_le_add_left (Nat.le_succ _) _) h0)
theorem ar116 {n0 : Nat} {n1 : Nat} (h0 : (((n0 + (n1 + 1)) : Nat) ≤ 10)) : ((((n0 + 1) + n1) : Nat) ≤ 10) := Nat.le_trans (Nat.le_of_eq (Nat.succ_add_eq_add_succ _ _)) h0
theorem ar117 {i0 : Int} (h0 : (((-1000 : Int) ≤ i0) ∧ ((i0 : Int) ≤ (1000 : Int)))) : (((-((2 : Int) ^ 62)) : Int) ≤ i0) := Int.le_trans (by decide) (h0.1)
theorem ar118 {i0 : Int} (h0 : (((-1000 : Int) ≤ i0) ∧ ((i0 : Int) ≤ (1000 : Int)))) : ((i0 : Int) < ((2 : Int) ^ 62)) := Int.lt_of_le_of_lt (h0.2) (by decide)
theorem ar119 {i0 : Int} {i1 : Int} (h0 : ((i0 : Int) < i1)) : (((i1 - i0) : Int) = (((Int.toNat (i1 - i0)) : Nat) : Int)) := (Int.toNat_of_nonneg (Int.sub_nonneg_of_le (Int.le_of_lt h0))).symm
theorem ar120 {i0 : Int} {i1 : Int} (h0 : (¬ ((i0 : Int) < i1))) : ((0 : Int) = (((Int.toNat (i1 - i0)) : Nat) : Int)) := (congrArg Nat.cast (Int.toNat_of_nonpos (Int.sub_nonpos_of_le (Int.not_lt.mp h0)))).symm
theorem ar121 {n0 : Nat} {n1 : Nat} (h0 : (((n0 + (n1 + 1)) : Nat) ≤ 1000000)) : ((n0 : Nat) ≤ 1000000) := Nat.le_of_add_right_le h0
theorem ar122 {i0 : Int} (h0 : ((-100 : Int) ≤ i0)) (h1 : ((i0 : Int) ≤ (100 : Int))) : (((-1000 : Int) ≤ i0) ∧ ((i0 : Int) ≤ (1000 : Int))) := ⟨Int.le_trans (by decide) h0, Int.le_trans h1 (by decide)⟩
theorem ar123 {i0 : Int} (h0 : ((-100 : Int) ≤ i0)) (h1 : ((i0 : Int) ≤ (100 : Int))) : (((-1000 : Int) ≤ (i0 + (1 : Int))) ∧ (((i0 + (1 : Int)) : Int) ≤ (1000 : Int))) := ⟨Int.le_trans (by decide : _ ≤ (-100 : Int) + 1) (Int.add_le_add_right h0 1), Int.le_trans (Int.add_le_add_right h1 1) (by decide)⟩
theorem ar124 {n0 : Nat} {n1 : Nat} {n2 : Nat} {i3 : Int} {i4 : Int} (h0 : ((n0 : Nat) ≤ (300 * (n1 - (n2 + 1))))) (h1 : ((-100 : Int) ≤ i3)) (h2 : ((i4 : Int) ≤ (100 : Int))) (h3 : ((n1 : Nat) ≤ 100)) : (((n0 + (Int.toNat ((i4 + (1 : Int)) - i3))) : Nat) ≤ 1000000) := Nat.le_trans (Nat.add_le_add (Nat.le_trans h0 (Nat.mul_le_mul_left 300 (Nat.le_trans (Nat.sub_le _ _) h3))) (tn201 h1 h2)) (by decide)
theorem ar125 {n0 : Nat} {n1 : Nat} (h0 : (((n0 + 1) : Nat) ≤ n1)) : ((n0 : Nat) ≤ n1) := Nat.le_of_succ_le h0
theorem ar126 {n0 : Nat} {n1 : Nat} (h0 : (((n0 + 1) : Nat) ≤ n1)) : (((n1 - n0) : Nat) = ((n1 - (n0 + 1)) + 1)) := (Nat.succ_pred_eq_of_pos (Nat.sub_pos_of_lt h0)).symm
theorem ar127 {n0 : Nat} {n1 : Nat} {n2 : Nat} {i3 : Int} {i4 : Int} (h0 : ((n0 : Nat) ≤ (300 * (n1 - (n2 + 1))))) (h1 : ((-100 : Int) ≤ i3)) (h2 : ((i4 : Int) ≤ (100 : Int))) : (((n0 + (Int.toNat ((i4 + (1 : Int)) - i3))) : Nat) ≤ (300 * ((n1 - (n2 + 1)) + 1))) := Nat.add_le_add h0 (Nat.le_trans (tn201 h1 h2) (by decide : 201 ≤ 300))
theorem ar128 {n0 : Nat} {n1 : Nat} : (((n0 + (n1 * n0)) : Nat) = ((n1 * n0) + n0)) := Nat.add_comm _ _
theorem ar129 {n0 : Nat} {n1 : Nat} : ((((n0 + 1) + n1) : Nat) = (n0 + (n1 + 1))) := Nat.add_right_comm _ _ _
theorem ar130 {n0 : Nat} {n1 : Nat} {n2 : Nat} {n3 : Nat} {n4 : Nat} {n5 : Nat} (h0 : ((n0 : Nat) = n1)) (h1 : ((n0 : Nat) = (n2 + (n3 + 1)))) (h2 : ((n1 : Nat) = (n4 + (n5 + 1)))) (h3 : ((n3 : Nat) = n5)) : ((n2 : Nat) = n4) := by simp_all
theorem ar131 {n0 : Nat} {n1 : Nat} {n2 : Nat} (h0 : ((n0 : Nat) ≤ 5)) (h1 : ((n0 : Nat) = (n1 + (n2 + 1)))) : ((n1 : Nat) ≤ 5) := Nat.le_trans (Nat.le_trans (Nat.le_add_right _ _) (Nat.le_of_eq h1.symm)) h0
theorem ar132 : ((6 : Nat) > 0) := Nat.succ_pos _
theorem ar133 {n0 : Nat} {n1 : Nat} {n2 : Nat} (h0 : ((n0 : Nat) ≤ 5)) (h1 : ((n0 : Nat) = (n1 + (n2 + 1)))) : ((n1 : Nat) ≤ 4) := Nat.le_of_lt_succ (Nat.lt_of_lt_of_le (Nat.lt_add_of_pos_right (Nat.succ_pos _)) (h1 ▸ h0))
theorem ar134 {n0 : Nat} {n1 : Nat} (h0 : ((n0 : Nat) ≤ (6 ^ 5))) (h1 : ((n1 : Nat) ≤ n0)) : ((n1 : Nat) ≤ 100000) := Nat.le_trans (h1) (Nat.le_trans (h0) (by decide))
theorem ar135 {n0 : Nat} {n1 : Nat} {n2 : Nat} (h0 : (((n0 + (n1 + n2)) : Nat) ≤ 100000)) : (((n0 + n1) : Nat) ≤ 100000) := Nat.le_trans (Nat.add_le_add_left (Nat.le_add_right _ _) _) h0
theorem ar136 {n0 : Nat} {n1 : Nat} {n2 : Nat} (h0 : (((n0 + n1) : Nat) ≤ 100000)) (h1 : ((n2 : Nat) ≤ n1)) : (((n0 + n2) : Nat) ≤ 1000000) := Nat.le_trans (Nat.add_le_add_left h1 _) (Nat.le_trans h0 (by decide))
theorem ar137 {n0 : Nat} (h0 : ((n0 : Nat) ≤ 5)) : ((n0 : Nat) ≤ 9999) := Nat.le_trans (h0) (by decide)
theorem ar138 {i0 : Int} {n1 : Nat} {n2 : Nat} (h0 : ((i0 : Int) = ((n1 : Nat) : Int))) (h1 : ((i0 : Int) < (((n2 : Nat) : Int) + (2 : Int)))) : ((n1 : Nat) < (n2 + 2)) := Int.ofNat_lt.mp (h0 ▸ h1)
theorem ar139 {n0 : Nat} (h0 : ((n0 : Nat) ≤ 100000)) : ((n0 : Nat) ≤ 1000000) := Nat.le_trans (h0) (by decide)
theorem ar140 {n0 : Nat} {n1 : Nat} (h0 : ((n0 : Nat) ≤ 50)) (h1 : ((n1 : Nat) = (n0 + 2))) : ((n1 : Nat) ≤ 1000) := Nat.le_trans (Nat.le_of_eq (h1)) (Nat.le_trans (Nat.add_le_add_right (h0) _) (by decide))
theorem ar141 {n0 : Nat} {n1 : Nat} {n2 : Nat} (h0 : ((n0 : Nat) = (n1 + 2))) (h1 : ((n2 : Nat) < (n1 + 2))) : ((n2 : Nat) < n0) := Nat.lt_of_lt_of_eq (h1) (h0.symm)
theorem ar142 {n0 : Nat} {n1 : Nat} (h0 : (((n0 + (n1 + 1)) : Nat) ≤ 1000)) : (((n0 + n1) : Nat) ≤ 1000) := Nat.le_trans (Nat.add_le_add_left (Nat.le_add_right _ _) _) h0
theorem ar143 {n0 : Nat} {n1 : Nat} (h0 : (((n0 + (n1 + 1)) : Nat) ≤ 1000)) : ((n0 : Nat) ≤ 1000000) := Nat.le_trans (Nat.le_of_add_right_le h0) (by decide)
theorem ar144 {n0 : Nat} {n1 : Nat} (h0 : (((n0 + (n1 + 1)) : Nat) ≤ 1000)) : ((((n0 + 1) + n1) : Nat) ≤ 1000) := Nat.le_trans (Nat.le_of_eq (Nat.succ_add_eq_add_succ _ _)) h0
theorem ar145 {n0 : Nat} : ((1 : Int) ≤ (((n0 : Nat) : Int) + (1 : Int))) := (Int.ofNat_lt.mpr (Nat.succ_pos _))
theorem ar146 {n0 : Nat} : (((Int.toNat ((-(1 : Int)) + (((n0 : Nat) : Int) + (1 : Int)))) : Nat) = n0) := by simp +arith
theorem ar147 {n0 : Nat} (h0 : ((n0 : Nat) ≤ 100)) : ((n0 : Nat) ≤ 1000) := Nat.le_trans (h0) (by decide)
theorem ar148 {n0 : Nat} {n1 : Nat} (h0 : (((n0 + (n1 + 1)) : Nat) ≤ 100)) : ((n0 : Nat) ≤ 100) := Nat.le_of_add_right_le h0
theorem ar149 {n0 : Nat} {n1 : Nat} {i2 : Int} {i3 : Int} (h0 : ((n0 : Nat) ≤ (300 * n1))) (h1 : ((-100 : Int) ≤ i2)) (h2 : ((i3 : Int) ≤ (100 : Int))) : ((((Int.toNat ((i3 + (1 : Int)) - i2)) + n0) : Nat) ≤ (300 * (n1 + 1))) := Nat.le_trans (Nat.add_le_add (Nat.le_trans (tn201 h1 h2) (by decide : 201 ≤ 300)) h0) (Nat.le_of_eq (Nat.add_comm _ _))
theorem ar150 {n0 : Nat} {n1 : Nat} (h0 : ((n0 : Nat) ≤ 100)) (h1 : ((n1 : Nat) ≤ (300 * n0))) : ((n1 : Nat) ≤ 1000000) := Nat.le_trans h1 (Nat.le_trans (Nat.mul_le_mul_left 300 h0) (by decide))
theorem ar151 {i0 : Int} (h0 : ((-100 : Int) ≤ i0)) (h1 : ((i0 : Int) ≤ (100 : Int))) : (((-1000000 : Int) ≤ i0) ∧ ((i0 : Int) ≤ (1000000 : Int))) := ⟨Int.le_trans (by decide) h0, Int.le_trans h1 (by decide)⟩
theorem ar152 {i0 : Int} (h0 : ((-100 : Int) ≤ i0)) (h1 : ((i0 : Int) ≤ (100 : Int))) : (((-1000000 : Int) ≤ (i0 + (1 : Int))) ∧ (((i0 + (1 : Int)) : Int) ≤ (1000000 : Int))) := ⟨Int.le_trans (by decide : _ ≤ (-100 : Int) + 1) (Int.add_le_add_right h0 1), Int.le_trans (Int.add_le_add_right h1 1) (by decide)⟩
theorem ar153 {n0 : Nat} (h0 : ((n0 : Nat) ≤ 100)) : ((n0 : Nat) ≤ 1000000) := Nat.le_trans (h0) (by decide)
theorem ar154 {n0 : Nat} {n1 : Nat} {n2 : Nat} (h0 : ((n0 : Nat) ≤ 100)) (h1 : ((n1 : Nat) ≤ n0)) (h2 : ((n2 : Nat) ≤ n0)) : (((n1 + n2) : Nat) ≤ 10000) := Nat.le_trans (Nat.add_le_add (Nat.le_trans h1 h0) (Nat.le_trans h2 h0)) (by decide)
theorem ar155 {n0 : Nat} {n1 : Nat} {n2 : Nat} (h0 : ((n0 : Nat) = n1)) (h1 : ((n2 : Nat) < n0)) : ((n2 : Nat) < n1) := Nat.lt_of_lt_of_eq (h1) (h0)
theorem ar156 {n0 : Nat} {n1 : Nat} {n2 : Nat} (h0 : ((n0 : Nat) < n1)) (h1 : ((n2 : Nat) = n1)) : ((n0 : Nat) < n2) := Nat.lt_of_lt_of_eq (h0) (h1.symm)
theorem ar157 {n0 : Nat} {n1 : Nat} (h0 : ((n0 : Nat) ≤ 1000)) (h1 : ((n1 : Nat) = n0)) : ((n1 : Nat) ≤ 1000000) := Nat.le_trans (Nat.le_of_eq (h1)) (Nat.le_trans (h0) (by decide))
theorem ar158 {n0 : Nat} (h0 : (((2 : Nat) ≤ n0) ∧ ((n0 : Nat) ≤ 3))) : (((n0 + 2) : Nat) ≤ 1000) := Nat.le_trans (Nat.add_le_add_right (h0.2) _) (by decide)
theorem ar159 {n0 : Nat} (h0 : (((2 : Nat) ≤ n0) ∧ ((n0 : Nat) ≤ 3))) : ((n0 : Nat) ≤ 999998) := Nat.le_trans (h0.2) (by decide)
theorem ar160 {n0 : Nat} {n1 : Nat} {n2 : Nat} (h0 : ((n0 : Nat) = (n1 + 2))) (h1 : (¬ ((n2 : Nat) < (n1 + 2)))) : ((n0 : Nat) ≤ n2) := Nat.le_trans (Nat.le_of_eq h0) (Nat.not_lt.mp h1)
theorem ar161 {n0 : Nat} {n1 : Nat} {n2 : Nat} (h0 : ((n0 : Nat) = (n1 + 2))) (h1 : ((n2 : Nat) ≥ (n1 + 2))) : ((n0 : Nat) ≤ n2) := Nat.le_trans (Nat.le_of_eq h0) (h1)
theorem ar162 {n0 : Nat} {n1 : Nat} (h0 : ((n0 : Nat) = (n1 + 2))) (h1 : ((n1 : Nat) ≤ 50)) : ((n0 : Nat) ≤ 1000) := Nat.le_trans (Nat.le_of_eq (h0)) (Nat.le_trans (Nat.add_le_add_right (h1) _) (by decide))
theorem ar163 {n0 : Nat} (h0 : ((1 : Nat) ≤ n0)) : ((((n0 : Nat) : Int) : Int) > (0 : Int)) := Int.ofNat_lt.mpr (h0)
theorem ar164 {n0 : Nat} (h0 : ((0 : Int) < ((n0 : Nat) : Int))) : ((((((n0 : Nat) : Int) - (0 : Int)) - (1 : Int)) : Int) = (((n0 - 1) : Nat) : Int)) := by rw [Int.sub_zero]; exact (Int.ofNat_sub (Int.ofNat_lt.mp h0)).symm
theorem ar165 {n0 : Nat} {n1 : Nat} (h0 : ((0 : Int) < ((n0 : Nat) : Int))) (h1 : ((((n0 - 1) / n1) : Nat) ≤ (n0 - 1))) : (((((n0 - 1) / n1) + 1) : Nat) ≤ n0) := Nat.lt_of_le_of_lt h1 (Nat.pred_lt (Nat.ne_of_gt (Int.ofNat_lt.mp h0)))
theorem ar166 {n0 : Nat} {n1 : Nat} {n2 : Nat} (h0 : ((n0 : Nat) < (((n1 - 1) / n2) + 1))) : ((n0 : Nat) ≤ ((n1 - 1) / n2)) := Nat.le_of_lt_succ h0
theorem ar167 {n0 : Nat} (h0 : ((1 : Nat) ≤ n0)) : ((0 : Nat) < n0) := h0
theorem ar168 {n0 : Nat} {n1 : Nat} {n2 : Nat} (h0 : ((0 : Int) < ((n0 : Nat) : Int))) (h1 : (((n1 * n2) : Nat) ≤ (n0 - 1))) : (((n1 * n2) : Nat) < n0) := Nat.lt_of_le_of_lt h1 (Nat.pred_lt (Nat.ne_of_gt (Int.ofNat_lt.mp h0)))
theorem ar169 {n0 : Nat} : ((0 : Nat) ≤ n0) := Nat.zero_le _
theorem ar170 {n0 : Nat} {n1 : Nat} {n2 : Nat} (h0 : ((n0 : Nat) < 0)) : (((n0 * n1) : Nat) < n2) := by simp_all
theorem ar171 : ((((-((2 : Int) ^ 63)) : Int) ≤ (0 : Int)) ∧ ((0 : Int) < ((2 : Int) ^ 63))) := by decide
theorem ar172 {n0 : Nat} (h0 : ((n0 : Nat) ≤ 100000)) : ((((-((2 : Int) ^ 63)) : Int) ≤ ((n0 : Nat) : Int)) ∧ ((((n0 : Nat) : Int) : Int) < ((2 : Int) ^ 63))) := ⟨Int.le_trans (by decide) (Int.natCast_nonneg _), Int.lt_of_le_of_lt (Int.ofNat_le.mpr h0) (by decide)⟩
theorem ar173 {n0 : Nat} {n1 : Nat} (h0 : ((n0 : Nat) ≤ 100000)) (h1 : ((n1 : Nat) ≤ n0)) : ((((-((2 : Int) ^ 63)) : Int) ≤ ((n1 : Nat) : Int)) ∧ ((((n1 : Nat) : Int) : Int) < ((2 : Int) ^ 63))) := ⟨Int.le_trans (by decide) (Int.natCast_nonneg _), Int.lt_of_le_of_lt (Int.ofNat_le.mpr (Nat.le_trans h1 h0)) (by decide)⟩
theorem ar174 {n0 : Nat} {n1 : Nat} (h0 : ((n0 : Nat) ≤ 100000)) (h1 : ((n1 : Nat) ≤ 100000)) : ((((-((2 : Int) ^ 63)) : Int) ≤ (((n0 : Nat) : Int) + (((n1 : Nat) : Int) - (1 : Int)))) ∧ (((((n0 : Nat) : Int) + (((n1 : Nat) : Int) - (1 : Int))) : Int) < ((2 : Int) ^ 63))) := ⟨Int.le_trans (by decide : _ ≤ (0 : Int) + (0 - 1)) (Int.add_le_add (Int.natCast_nonneg _) (Int.sub_le_sub_right (Int.natCast_nonneg _) 1)), Int.lt_of_le_of_lt (Int.add_le_add (Int.ofNat_le.mpr h0) (Int.sub_le_sub_right (Int.ofNat_le.mpr h1) 1)) (by decide)⟩
theorem ar175 : (¬ ((0 : Nat) > 300)) := by decide
theorem ar176 {n0 : Nat} (h0 : ((n0 : Nat) ≤ 1000)) : ((n0 : Nat) < (2 ^ 10)) := Nat.lt_of_le_of_lt (h0) (by decide)
theorem ar177 {n0 : Nat} (h0 : ((n0 : Nat) < 10)) : (¬ ((((n0 / 30) + 1) : Nat) > 300)) := Nat.not_lt.mpr (Nat.le_trans (Nat.succ_le_succ (Nat.le_trans (Nat.div_le_self _ _) (Nat.le_of_lt h0))) (by decide))
theorem ar178 {n0 : Nat} {n1 : Nat} (h0 : ((n0 : Nat) = (n1 + 2))) (h1 : ((n1 : Nat) ≤ 3)) : ((n0 : Nat) ≤ 5) := by (rw [h0]; exact Nat.add_le_add_right (h1) _)
theorem ar179 {n0 : Nat} {n1 : Nat} {n2 : Nat} (h0 : ((n0 : Nat) = (n1 + 2))) (h1 : ((n2 : Nat) = (0 + n0))) : ((n2 : Nat) = (n1 + 2)) := by simp_all
theorem ar180 : ((0 : Int) ≤ (40 : Int)) := Int.natCast_nonneg _
theorem ar181 {n0 : Nat} : ((1 : Nat) ≤ (1 + (n0 / 40))) := Nat.le_add_right _ _
theorem ar182 {n0 : Nat} (h0 : ((n0 : Nat) ≤ 7776)) : ((n0 : Nat) ≤ 1000000) := Nat.le_trans (h0) (by decide)
theorem ar183 : ((40 : Int) ≠ (0 : Int)) := (Int.ofNat_ne_zero.mpr (Nat.succ_ne_zero _))
theorem ar184 : (((40 : Int) = (2 : Int)) ∨ (((40 : Int) = (6 : Int)) ∨ (((40 : Int) = (7 : Int)) ∨ (((40 : Int) = (29 : Int)) ∨ (((40 : Int) = (40 : Int)) ∨ (((40 : Int) = (1 : Int)) ∨ (((40 : Int) = (3 : Int)) ∨ ((40 : Int) = (4 : Int))))))))) := by decide
theorem ar185 {n0 : Nat} : (((((1 + (n0 / 40)) : Nat) : Int) : Int) ≠ (0 : Int)) := Int.ofNat_ne_zero.mpr (Nat.ne_of_gt (Nat.le_add_right _ _))
theorem ar186 {n0 : Nat} (h0 : ((n0 : Nat) ≤ 7776)) : (((1 + (n0 / 40)) : Nat) ≤ 1000) := Nat.le_trans (Nat.add_le_add_left (Nat.div_le_div_right h0) 1) (by decide)
theorem ar187 {n0 : Nat} (h0 : ((n0 : Nat) ≤ 7776)) : (((1 : Nat) ≤ (1 + (n0 / 40))) ∧ (((1 + (n0 / 40)) : Nat) ≤ 1000)) := ⟨Nat.le_add_right _ _, Nat.le_trans (Nat.add_le_add_left (Nat.div_le_div_right h0) 1) (by decide)⟩
theorem ar188 {n0 : Nat} (h0 : ((n0 : Nat) ≤ 7776)) : ((n0 : Nat) ≤ 100000) := Nat.le_trans (h0) (by decide)
theorem ar189 {n0 : Nat} (h0 : (((1 : Nat) ≤ (1 + (n0 / 40))) ∧ (((1 + (n0 / 40)) : Nat) ≤ 1000))) : (((1 + (n0 / 40)) : Nat) ≤ 100000) := Nat.le_trans (h0.2) (by decide)
theorem ar190 {n0 : Nat} {n1 : Nat} {n2 : Nat} (h0 : (((n0 + (n1 + 1)) : Nat) = n2)) : ((n0 : Nat) < n2) := Nat.lt_of_le_of_lt (Nat.le_add_right _ _) (Nat.le_of_eq h0)
theorem ar191 {n0 : Nat} {n1 : Nat} (h0 : ((n0 : Nat) ≤ 3)) (h1 : ((n1 : Nat) = (n0 + 2))) : ((n1 : Nat) ≤ 1000) := Nat.le_trans (Nat.le_of_eq (h1)) (Nat.le_trans (Nat.add_le_add_right (h0) _) (by decide))
theorem ar192 {n0 : Nat} {n1 : Nat} (h0 : ((n0 : Nat) = (n1 + 2))) : ((2 : Nat) ≤ n0) := by (subst h0; simp)
theorem ar193 {n0 : Nat} (h0 : ((0 : Nat) < n0)) (h1 : ((0 : Nat) = n0)) : False := by simp_all
theorem ar194 {n0 : Nat} {n1 : Nat} (h0 : ((n0 : Nat) < n1)) : ((0 : Nat) < n1) := Nat.lt_of_le_of_lt (Nat.zero_le _) (h0)
theorem ar195 {n0 : Nat} {n1 : Nat} {n2 : Nat} (h0 : ((n0 : Nat) = n1)) (h1 : ((n2 : Nat) < n1)) : ((n2 : Nat) < n0) := Nat.lt_of_lt_of_eq (h1) (h0.symm)
theorem ar196 {n0 : Nat} {n1 : Nat} (h0 : ((n0 : Nat) = (n1 + 2))) : ((0 : Nat) < n0) := Nat.lt_of_sub_eq_succ (h0)
theorem ar197 {n0 : Nat} (h0 : ((n0 : Nat) ≤ 900)) : ((n0 : Nat) ≤ 1000000) := Nat.le_trans (h0) (by decide)
theorem ar198 {n0 : Nat} (h0 : ((n0 : Nat) ≤ 900)) : ((n0 : Nat) ≤ 9999) := Nat.le_trans (h0) (by decide)
theorem ar199 {n0 : Nat} {n1 : Nat} (h0 : ((n0 : Nat) < (n1 + 2))) : ((((n0 : Nat) : Int) : Int) < (((n1 : Nat) : Int) + (2 : Int))) := Int.ofNat_lt.mpr (h0)
theorem ar200 {n0 : Nat} (h0 : ((n0 : Nat) ≤ 900)) : ((n0 : Nat) ≤ 999) := Nat.le_trans (h0) (by decide)
theorem ar201 {n0 : Nat} {n1 : Nat} {n2 : Nat} (h0 : ((n0 : Nat) ≤ 50)) (h1 : ((n1 : Nat) = (n0 + 2))) (h2 : ((n2 : Nat) = n1)) : ((n2 : Nat) ≤ 1000000) := h2 ▸ h1 ▸ Nat.le_trans (Nat.add_le_add_right h0 2) (by decide)
theorem ar202 {n0 : Nat} {n1 : Nat} {n2 : Nat} {n3 : Nat} (h0 : ((n0 : Nat) = (n1 + 2))) (h1 : ((n2 : Nat) < (n1 + 2))) (h2 : ((n3 : Nat) = n0)) : ((n2 : Nat) < n3) := by (subst h2 h0; omega)
theorem ar203 {n0 : Nat} (h0 : ((n0 : Nat) ≤ 50)) : (((n0 + 2) : Nat) ≤ 1000) := Nat.le_trans (Nat.add_le_add_right (h0) _) (by decide)
theorem ar204 {n0 : Nat} {n1 : Nat} (h0 : (((n0 + n1) : Nat) ≤ 14)) : ((n0 : Nat) ≤ 1000000) := Nat.le_trans (Nat.le_of_add_right_le h0) (by decide)
theorem ar205 {n0 : Nat} {n1 : Nat} {n2 : Nat} (h0 : ((n0 : Nat) = (n1 + 2))) (h1 : ((n2 : Nat) < n0)) : ((n2 : Nat) < (n1 + 2)) := Nat.lt_of_lt_of_eq (h1) (h0)
theorem ar206 {n0 : Nat} (h0 : ((n0 : Nat) ≤ 6)) : ((n0 : Nat) ≤ 1000) := Nat.le_trans (h0) (by decide)
theorem ar207 {n0 : Nat} {n1 : Nat} {n2 : Nat} (h0 : (((2 : Nat) ≤ n0) ∧ ((n0 : Nat) ≤ 3))) (h1 : ((n1 : Nat) = (n0 + 2))) (h2 : ((n2 : Nat) = n1)) : ((n2 : Nat) ≤ 1000000) := h2 ▸ h1 ▸ Nat.le_trans (Nat.add_le_add_right h0.2 2) (by decide)
theorem ar208 {n0 : Nat} {n1 : Nat} (h0 : ((((n0 : Nat) : Int) : Int) = ((n1 : Nat) : Int))) : ((n0 : Nat) = n1) := Int.ofNat_inj.mp h0
theorem ar209 {n0 : Nat} {n1 : Nat} (h0 : (((2 : Nat) ≤ n0) ∧ ((n0 : Nat) ≤ 3))) (h1 : ((n1 : Nat) = (n0 + 2))) : ((n1 : Nat) ≤ 1000) := Nat.le_trans (Nat.le_of_eq (h1)) (Nat.le_trans (Nat.add_le_add_right (h0.2) _) (by decide))
theorem ar210 {n0 : Nat} (h0 : ((n0 : Nat) ≤ 901)) : ((n0 : Nat) ≤ 1000) := Nat.le_trans (h0) (by decide)
theorem ar211 {n0 : Nat} {n1 : Nat} (h0 : ((n0 : Nat) ≤ 100000)) (h1 : ((n1 : Nat) ≤ n0)) : ((n1 : Nat) ≤ 1000000) := Nat.le_trans (h1) (Nat.le_trans (h0) (by decide))
theorem ar212 {n0 : Nat} {n1 : Nat} {n2 : Nat} (h0 : ((n0 : Nat) < (n1 + 2))) (h1 : ((n2 : Nat) = (n1 + 2))) : ((n0 : Nat) < n2) := Nat.lt_of_lt_of_eq (h0) (h1.symm)
theorem ar213 {n0 : Nat} : ((n0 : Nat) ≤ n0) := Nat.le_refl _
theorem ar214 {n0 : Nat} {n1 : Nat} (h0 : ((n0 : Nat) < n1)) : (((n0 + 1) : Nat) ≤ n1) := h0
theorem ar215 : ((2 : Nat) ≤ 8) := Nat.le_add_left _ _
theorem ar216 {n0 : Nat} : (¬ ((((n0 : Nat) : Int) : Int) < (0 : Int))) := (Int.not_lt.mpr (Int.natCast_nonneg _))
theorem ar217 {n0 : Nat} {n1 : Nat} : (((Int.toNat (max (0 : Int) (min ((n0 : Nat) : Int) ((n1 : Nat) : Int)))) : Nat) = (min n0 n1)) := (Nat.le_total n0 n1).elim (fun h => by rw [Nat.min_eq_left h, Int.min_eq_left (Int.ofNat_le.mpr h)]; exact congrArg Int.toNat (Int.max_eq_right (Int.natCast_nonneg _))) (fun h => by rw [Nat.min_eq_right h, Int.min_eq_right (Int.ofNat_le.mpr h)]; exact congrArg Int.toNat (Int.max_eq_right (Int.natCast_nonneg _)))
theorem ar218 {n0 : Nat} {n1 : Nat} : (((min ((min 14 n0) - (min 6 n0)) n1) : Nat) ≤ 8) := Nat.le_trans (Nat.min_le_left _ _) (Nat.sub_le_of_le_add ((Nat.le_total n0 6).elim (fun h => (Nat.min_eq_right h).symm ▸ Nat.le_trans (Nat.min_le_right _ _) (Nat.le_add_left _ _)) (fun h => (Nat.min_eq_left h).symm ▸ Nat.min_le_left 14 _)))
theorem ar219 {n0 : Nat} {n1 : Nat} (h0 : ((n0 : Nat) ≤ n1)) : (((n0 + 1) : Nat) ≤ (n1 + 1)) := Nat.succ_le_succ (h0)
theorem ar220 {n0 : Nat} (h0 : ((n0 : Nat) < 4)) : (((n0 : Nat) = 0) ∨ (((n0 : Nat) = 1) ∨ (((n0 : Nat) = 2) ∨ ((n0 : Nat) = 3)))) := (Nat.lt_succ_iff_lt_or_eq.mp h0).elim (fun h => (Nat.lt_succ_iff_lt_or_eq.mp h).elim (fun h => (Nat.lt_succ_iff_lt_or_eq.mp h).elim (fun h => .inl (Nat.lt_one_iff.mp h)) (fun h => .inr (.inl h))) (fun h => .inr (.inr (.inl h)))) (fun h => .inr (.inr (.inr h)))
theorem ar221 {n0 : Nat} (h0 : ((n0 : Nat) ≤ 100000)) : ((n0 : Nat) ≤ 999999) := Nat.le_trans (h0) (by decide)
theorem ar222 {n0 : Nat} (h0 : ((n0 : Nat) < 6)) : ((n0 : Nat) < 6) := h0
theorem ar223 {n0 : Nat} (h0 : ((n0 : Nat) < 6)) : ((((n0 : Nat) : Int) : Int) < ((6 : Nat) : Int)) := Int.ofNat_lt.mpr (h0)
theorem ar224 : ((4 : Nat) ≤ 50) := Nat.le_add_left _ _
theorem ar225 {n0 : Nat} {n1 : Nat} (h0 : ((((n0 : Nat) : Int) : Int) < ((n1 : Nat) : Int))) : ((n0 : Nat) < n1) := Int.ofNat_lt.mp h0
theorem ar226 {n0 : Nat} {n1 : Nat} (h0 : (¬ ((((n0 : Nat) : Int) : Int) < ((n1 : Nat) : Int)))) : (¬ ((n0 : Nat) < n1)) := by simp_all
theorem ar227 {n0 : Nat} (h0 : (¬ ((n0 : Nat) < 6))) : ((6 : Nat) ≤ n0) := Nat.not_lt.mp h0
theorem ar228 : ((0 : Nat) < 6) := Nat.succ_pos _
theorem ar229 {n0 : Nat} : ((((2 : Int) + ((n0 : Nat) : Int)) : Int) = (((2 + n0) : Nat) : Int)) := Int.natCast_add _ _
theorem ar230 {n0 : Nat} (h0 : ((n0 : Nat) < 2)) : ((((2 + n0) : Nat) = 2) ∨ (((2 + n0) : Nat) = 3)) := (Nat.lt_succ_iff_lt_or_eq.mp h0).elim (fun h => .inl (by rw [Nat.lt_one_iff.mp h])) (fun h => .inr (by rw [h]))
theorem ar231 : ((1 : Nat) < 6) := Nat.le_add_left _ _
theorem ar232 : ((5 : Nat) ≤ 5) := Nat.le_refl _
theorem ar233 : (((5 : Nat) = 2) ∨ (((5 : Nat) = 3) ∨ ((5 : Nat) = 5))) := .inr (.inr rfl)
theorem ar234 {n0 : Nat} {n1 : Nat} (h0 : ((n0 : Nat) < 2)) (h1 : ((n1 : Nat) = (2 + n0))) : ((n1 : Nat) ≤ 1000) := h1 ▸ Nat.le_trans (Nat.add_le_add_left (Nat.le_of_lt h0) 2) (by decide)
theorem ar235 {n0 : Nat} {n1 : Nat} (h0 : ((n0 : Nat) < 2)) (h1 : ((n1 : Nat) = (2 + n0))) : ((n1 : Nat) ≤ 1000000) := h1 ▸ Nat.le_trans (Nat.add_le_add_left (Nat.le_of_lt h0) 2) (by decide)
theorem ar236 {n0 : Nat} : ((((2 : Int) + ((n0 : Nat) : Int)) : Int) = (((n0 + 2) : Nat) : Int)) := Int.add_comm _ _
theorem ar237 {n0 : Nat} {n1 : Nat} {n2 : Nat} (h0 : ((n0 : Nat) < 2)) (h1 : ((n1 : Nat) = (2 + n0))) (h2 : ((n2 : Nat) < n1)) : (((n2 + 2) : Nat) < 6) := Nat.lt_of_lt_of_le (Nat.add_lt_add_right h2 2) (h1 ▸ Nat.le_trans (Nat.add_le_add_right (Nat.add_le_add_left (Nat.le_of_lt_succ h0) 2) 2) (by decide))
theorem ar238 {n0 : Nat} {n1 : Nat} (h0 : ((n0 : Nat) < 2)) (h1 : ((n1 : Nat) = (2 + n0))) : ((((5 : Int) - ((n1 : Nat) : Int)) : Int) = (((5 - n1) : Nat) : Int)) := (Int.ofNat_sub (h1 ▸ Nat.le_trans (Nat.add_le_add_left (Nat.le_of_lt h0) 2) (by decide))).symm
theorem ar239 {n0 : Nat} : (((5 - n0) : Nat) ≤ 5) := Nat.sub_le _ _
theorem ar240 {n0 : Nat} {n1 : Nat} (h0 : ((n0 : Nat) < 2)) (h1 : ((n1 : Nat) = (2 + n0))) : ((((5 - n1) : Nat) = 2) ∨ ((((5 - n1) : Nat) = 3) ∨ (((5 - n1) : Nat) = 5))) := h1 ▸ (ar230 h0).elim (fun h => .inr (.inl (by rw [h]))) (fun h => .inl (by rw [h]))
theorem ar241 {n0 : Nat} : (¬ (((n0 + 1) : Nat) = 0)) := Nat.succ_ne_zero _
theorem ar242 {n0 : Nat} {n1 : Nat} {n2 : Nat} (h0 : ((n0 : Nat) < 2)) (h1 : ((n1 : Nat) = (2 + n0))) (h2 : ((n2 : Nat) = n1)) : (((1 + n2) : Nat) ≤ 10000) := h2 ▸ h1 ▸ Nat.le_trans (Nat.add_le_add_left (Nat.add_le_add_left (Nat.le_of_lt h0) 2) 1) (by decide)
theorem ar243 {n0 : Nat} {n1 : Nat} (h0 : ((n0 : Nat) < 2)) (h1 : ((n1 : Nat) = (2 + n0))) : (((n1 + 2) : Nat) < 6) := h1 ▸ Nat.lt_of_le_of_lt (Nat.add_le_add_right (Nat.add_le_add_left (Nat.le_of_lt_succ h0) 2) 2) (by decide)
theorem ar244 {n0 : Nat} {n1 : Nat} {n2 : Nat} (h0 : ((n0 : Nat) < 2)) (h1 : ((n1 : Nat) = (2 + n0))) (h2 : ((n2 : Nat) = n1)) : ((n2 : Nat) ≤ 999999) := h2 ▸ h1 ▸ Nat.le_trans (Nat.add_le_add_left (Nat.le_of_lt h0) 2) (by decide)
theorem ar245 {n0 : Nat} {n1 : Nat} (h0 : (¬ ((n0 : Nat) < n1))) (h1 : ((n0 : Nat) < (n1 + 1))) : ((n0 : Nat) = n1) := Nat.le_antisymm (Nat.le_of_lt_succ h1) (Nat.not_lt.mp h0)
theorem ar246 {n0 : Nat} {n1 : Nat} {n2 : Nat} (h0 : ((n0 : Nat) = n1)) (h1 : ((n2 : Nat) ≥ (n1 + 1))) : (((n0 + 1) : Nat) ≤ n2) := Nat.lt_of_le_of_lt (Nat.le_of_eq h0) (h1)
theorem ar247 {n0 : Nat} {n1 : Nat} (h0 : ((n0 : Nat) = n1)) : ((n0 : Nat) ≤ n1) := Nat.le_of_eq h0
theorem ar248 {n0 : Nat} : ((0 : Nat) ≤ (n0 + 2)) := Nat.zero_le _
theorem ar249 {n0 : Nat} {n1 : Nat} {n2 : Nat} {n3 : Nat} (h0 : ((n0 : Nat) = (n1 + 2))) (h1 : ((n2 : Nat) = n0)) (h2 : ((n3 : Nat) ≤ (n1 + 2))) (h3 : ((0 : Nat) = (n2 - n3))) : ((n3 : Nat) = (n1 + 2)) := by subst h0 h1; exact Nat.le_antisymm h2 (Nat.sub_eq_zero_iff_le.mp h3.symm)
theorem ar250 {n0 : Nat} {n1 : Nat} (h0 : ((n0 : Nat) = (n1 + 2))) : ((n0 : Nat) ≤ (n1 + 2)) := Nat.le_of_eq h0
theorem ar251 {n0 : Nat} {n1 : Nat} (h0 : ((n0 : Nat) < 2)) (h1 : ((n1 : Nat) = (2 + n0))) : ((n1 : Nat) ≤ 99998) := h1 ▸ Nat.le_trans (Nat.add_le_add_left (Nat.le_of_lt h0) 2) (by decide)
theorem ar252 {n0 : Nat} {n1 : Nat} (h0 : ((n0 : Nat) < 2)) (h1 : ((n1 : Nat) = (2 + n0))) : ((n1 : Nat) ≤ 99999) := h1 ▸ Nat.le_trans (Nat.add_le_add_left (Nat.le_of_lt h0) 2) (by decide)
theorem ar253 {n0 : Nat} {n1 : Nat} (h0 : ((n0 : Nat) < 2)) (h1 : ((n1 : Nat) = (2 + n0))) : ((n1 : Nat) ≤ 998) := h1 ▸ Nat.le_trans (Nat.add_le_add_left (Nat.le_of_lt h0) 2) (by decide)
theorem ar254 {n0 : Nat} {n1 : Nat} (h0 : ((n0 : Nat) < 2)) (h1 : ((n1 : Nat) = (2 + n0))) : ((n1 : Nat) ≤ 50) := h1 ▸ Nat.le_trans (Nat.add_le_add_left (Nat.le_of_lt h0) 2) (by decide)
theorem ar255 {n0 : Nat} (h0 : ((n0 : Nat) ≤ 5)) : ((n0 : Nat) ≤ 6) := Nat.le_succ_of_le (h0)
theorem ar256 {n0 : Nat} {n1 : Nat} {n2 : Nat} (h0 : ((n0 : Nat) < 2)) (h1 : ((n1 : Nat) = (2 + n0))) (h2 : ((n2 : Nat) = (n1 + 2))) : ((n2 : Nat) ≤ 5) := h2 ▸ h1 ▸ Nat.add_le_add_right (Nat.add_le_add_left (Nat.le_of_lt_succ h0) 2) 2
theorem ar257 {n0 : Nat} {n1 : Nat} {n2 : Nat} (h0 : ((n0 : Nat) < 2)) (h1 : ((n1 : Nat) = (2 + n0))) (h2 : ((n2 : Nat) = (n1 + 2))) : ((n2 : Nat) ≤ 1000) := h2 ▸ h1 ▸ Nat.le_trans (Nat.add_le_add_right (Nat.add_le_add_left (Nat.le_of_lt h0) 2) 2) (by decide)
theorem ar258 {n0 : Nat} {n1 : Nat} (h0 : ((n0 : Nat) < 2)) (h1 : ((n1 : Nat) = (2 + n0))) : ((n1 : Nat) ≤ 3) := h1 ▸ Nat.add_le_add_left (Nat.le_of_lt_succ h0) 2
theorem ar259 {n0 : Nat} (h0 : ((n0 : Nat) ≤ 8)) : (((0 + n0) : Nat) ≤ 8) := Nat.add_le_add_left (h0) _
theorem ar260 : ((6 : Int) ≠ (0 : Int)) := (Int.ofNat_ne_zero.mpr (Nat.succ_ne_zero _))
theorem ar261 : (((6 : Int) = (2 : Int)) ∨ (((6 : Int) = (6 : Int)) ∨ (((6 : Int) = (7 : Int)) ∨ (((6 : Int) = (29 : Int)) ∨ (((6 : Int) = (40 : Int)) ∨ (((6 : Int) = (1 : Int)) ∨ (((6 : Int) = (3 : Int)) ∨ ((6 : Int) = (4 : Int))))))))) := .inr (.inl rfl)
theorem ar262 {n0 : Nat} {n1 : Nat} {n2 : Nat} {n3 : Nat} (h0 : (((n0 + (n1 + 1)) : Nat) ≤ 8)) (h1 : ((n2 : Nat) ≤ n0)) (h2 : ((n3 : Nat) = n2)) : ((n3 : Nat) ≤ 1000) := h2 ▸ Nat.le_trans h1 (Nat.le_trans (Nat.le_add_right _ _) (Nat.le_trans h0 (by decide)))
theorem ar263 {i0 : Int} {n1 : Nat} {n2 : Nat} (h0 : (((0 : Int) ≤ i0) ∧ ((i0 : Int) < (((n1 : Nat) : Int) + (2 : Int))))) (h1 : ((n2 : Nat) = (n1 + 2))) : (((0 : Int) ≤ i0) ∧ ((i0 : Int) < ((n2 : Nat) : Int))) := by (subst h1; exact h0)
theorem ar264 {n0 : Nat} {n1 : Nat} {n2 : Nat} (h0 : (((n0 + (n1 + 1)) : Nat) ≤ 8)) (h1 : (((n2 + 1) : Nat) ≤ n0)) : ((n2 : Nat) ≤ 1000000) := Nat.le_trans (Nat.le_of_add_right_le h1) (Nat.le_trans (Nat.le_of_add_right_le h0) (by decide))
theorem ar265 {n0 : Nat} {n1 : Nat} (h0 : (((n0 + (n1 + 1)) : Nat) ≤ 8)) : (((n0 + n1) : Nat) ≤ 8) := Nat.le_trans (Nat.add_le_add_left (Nat.le_add_right _ _) _) h0
theorem ar266 {n0 : Nat} {n1 : Nat} {n2 : Nat} (h0 : ((n0 : Nat) ≤ n1)) (h1 : (((n1 + (n2 + 1)) : Nat) ≤ 8)) : ((n0 : Nat) ≤ 1000000) := Nat.le_trans h0 (Nat.le_trans (Nat.le_add_right _ _) (Nat.le_trans h1 (by decide)))
theorem ar267 {n0 : Nat} {n1 : Nat} {n2 : Nat} {n3 : Nat} (h0 : ((n0 : Nat) ≤ n1)) (h1 : (((n1 + (n2 + 1)) : Nat) ≤ 8)) (h2 : ((n3 : Nat) = n0)) : ((n3 : Nat) ≤ 1000) := h2 ▸ Nat.le_trans h0 (Nat.le_trans (Nat.le_add_right _ _) (Nat.le_trans h1 (by decide)))
theorem ar268 {n0 : Nat} {n1 : Nat} {n2 : Nat} (h0 : ((n0 : Nat) < 2)) (h1 : ((n1 : Nat) = (2 + n0))) (h2 : ((((n2 : Nat) : Int) : Int) = (((n1 + 2) : Nat) : Int))) : ((n2 : Nat) ≤ 1000000) := Int.ofNat_inj.mp h2 ▸ h1 ▸ Nat.le_trans (Nat.add_le_add_right (Nat.add_le_add_left (Nat.le_of_lt h0) 2) 2) (by decide)
theorem ar269 {n0 : Nat} : (((((n0 + 2) : Nat) : Int) : Int) ≠ (0 : Int)) := (Int.ofNat_ne_zero.mpr (Nat.succ_ne_zero _))
theorem ar270 : ((7 : Int) ≠ (0 : Int)) := (Int.ofNat_ne_zero.mpr (Nat.succ_ne_zero _))
theorem ar271 : (((7 : Int) = (2 : Int)) ∨ (((7 : Int) = (6 : Int)) ∨ (((7 : Int) = (7 : Int)) ∨ (((7 : Int) = (29 : Int)) ∨ (((7 : Int) = (40 : Int)) ∨ (((7 : Int) = (1 : Int)) ∨ (((7 : Int) = (3 : Int)) ∨ ((7 : Int) = (4 : Int))))))))) := by decide
theorem ar272 : ((4 : Int) ≠ (0 : Int)) := (Int.ofNat_ne_zero.mpr (Nat.succ_ne_zero _))
theorem ar273 : ((0 : Nat) < 4) := Nat.succ_pos _
theorem ar274 : ((29 : Int) ≠ (0 : Int)) := (Int.ofNat_ne_zero.mpr (Nat.succ_ne_zero _))
theorem ar275 : (((29 : Int) = (2 : Int)) ∨ (((29 : Int) = (6 : Int)) ∨ (((29 : Int) = (7 : Int)) ∨ (((29 : Int) = (29 : Int)) ∨ (((29 : Int) = (40 : Int)) ∨ (((29 : Int) = (1 : Int)) ∨ (((29 : Int) = (3 : Int)) ∨ ((29 : Int) = (4 : Int))))))))) := by decide
theorem ar276 {n0 : Nat} (h0 : ((n0 : Nat) < 6)) : (((-3 : Int) ≤ (((n0 : Nat) : Int) - (1 : Int))) ∧ (((((n0 : Nat) : Int) - (1 : Int)) : Int) ≤ (6 : Int))) := ⟨Int.le_trans (by decide : _ ≤ (0 : Int) - 1) (Int.sub_le_sub_right (Int.natCast_nonneg _) 1), Int.le_trans (Int.sub_le_sub_right (Int.ofNat_le.mpr (Nat.le_of_lt h0)) 1) (by decide)⟩
theorem ar277 {n0 : Nat} {n1 : Nat} (h0 : (((n0 + (n1 + 1)) : Nat) ≤ 8)) : ((((n0 + 1) + n1) : Nat) ≤ 8) := Nat.le_trans (Nat.le_of_eq (Nat.succ_add_eq_add_succ _ _)) h0
theorem ar278 {n0 : Nat} {n1 : Nat} {n2 : Nat} {n3 : Nat} (h0 : ((n0 : Nat) ≤ n1)) (h1 : (((n1 + (n2 + 1)) : Nat) ≤ 8)) (h2 : ((n3 : Nat) = (n0 + 1))) : ((n3 : Nat) ≤ 1000) := h2 ▸ Nat.le_trans (Nat.succ_le_succ (Nat.le_trans h0 (Nat.le_trans (Nat.le_add_right _ _) h1))) (by decide)
theorem ar279 {n0 : Nat} {n1 : Nat} {n2 : Nat} {n3 : Nat} (h0 : ((n0 : Nat) ≤ n1)) (h1 : (((n1 + (n2 + 1)) : Nat) ≤ 8)) (h2 : ((n3 : Nat) = n0)) : ((n3 : Nat) ≤ 1000000) := h2 ▸ Nat.le_trans h0 (Nat.le_trans (Nat.le_add_right _ _) (Nat.le_trans h1 (by decide)))
theorem ar280 {n0 : Nat} {n1 : Nat} {n2 : Nat} {n3 : Nat} {n4 : Nat} (h0 : ((n0 : Nat) < 2)) (h1 : ((n1 : Nat) = (2 + n0))) (h2 : ((n2 : Nat) = (n1 + 2))) (h3 : ((n3 : Nat) = n2)) (h4 : ((n4 : Nat) < n3)) : ((n4 : Nat) ≤ 1000000) := Nat.le_trans (Nat.le_of_lt h4) (h3 ▸ h2 ▸ h1 ▸ Nat.le_trans (Nat.add_le_add_right (Nat.add_le_add_left (Nat.le_of_lt h0) 2) 2) (by decide))
theorem ar281 {p0 : Prop} {p1 : Prop} {p2 : Prop} {n3 : Nat} (h0 : (p0 ∧ (p1 ∧ (p2 ∧ ((n3 : Nat) ≤ 5))))) : ((n3 : Nat) ≤ 10) := Nat.le_trans h0.2.2.2 (by decide)
theorem ar282 {n0 : Nat} {n1 : Nat} {n2 : Nat} {n3 : Nat} (h0 : ((n0 : Nat) < 2)) (h1 : ((n1 : Nat) = (2 + n0))) (h2 : ((n2 : Nat) = (n1 + 2))) : (((min n3 n2) : Nat) ≤ 900) := Nat.le_trans (Nat.min_le_right _ _) (h2 ▸ h1 ▸ Nat.le_trans (Nat.add_le_add_right (Nat.add_le_add_left (Nat.le_of_lt h0) 2) 2) (by decide))
theorem ar283 {n0 : Nat} {n1 : Nat} {n2 : Nat} (h0 : ((n0 : Nat) = n1)) (h1 : ((n2 : Nat) < n0)) : (((min n2 n1) : Nat) = n2) := Nat.min_eq_left (Nat.le_of_lt (h0 ▸ h1))
theorem ar284 {n0 : Nat} {n1 : Nat} {n2 : Nat} {n3 : Nat} (h0 : ((n0 : Nat) = (n1 + 2))) (h1 : ((n2 : Nat) = n0)) (h2 : ((n3 : Nat) < n2)) : (((n3 + 1) : Nat) ≤ (n1 + 2)) := h0 ▸ h1 ▸ h2
theorem ar285 {n0 : Nat} {n1 : Nat} (h0 : ((n0 : Nat) ≤ n1)) : (((1 + n0) : Nat) ≤ (n1 + 1)) := Nat.le_trans (Nat.le_of_eq (Nat.add_comm _ _)) (Nat.succ_le_succ h0)
theorem ar286 {n0 : Nat} {n1 : Nat} {n2 : Nat} {n3 : Nat} {n4 : Nat} (h0 : ((n0 : Nat) = ((n1 - n2) + (n3 - n4)))) (h1 : ((n4 : Nat) < n3)) : ((n0 : Nat) = ((n0 - 1) + 1)) := (Nat.sub_add_cancel (h0 ▸ Nat.le_trans (Nat.sub_pos_of_lt h1) (Nat.le_add_left _ _))).symm
theorem ar287 {n0 : Nat} {n1 : Nat} {n2 : Nat} {n3 : Nat} (h0 : ((n0 : Nat) ≤ 100)) (h1 : ((n1 : Nat) ≤ 100)) (h2 : (((n2 + (n3 + 1)) : Nat) ≤ (n0 + n1))) : ((n2 : Nat) ≤ 1000000) := Nat.le_trans (Nat.le_add_right _ _) (Nat.le_trans h2 (Nat.le_trans (Nat.add_le_add h0 h1) (by decide)))
theorem ar288 {n0 : Nat} : ((n0 : Nat) < (n0 + 1)) := Nat.lt_succ_self _
theorem ar289 {n0 : Nat} {n1 : Nat} {n2 : Nat} {n3 : Nat} {n4 : Nat} (h0 : ((n0 : Nat) < n1)) (h1 : (((n2 + 1) : Nat) = ((n1 - n0) + (n3 - n4)))) : ((n2 : Nat) = ((n1 - (n0 + 1)) + (n3 - n4))) := Nat.succ.inj (h1.trans ((congrArg (· + (n3 - n4)) (ar126 h0)).trans (Nat.succ_add _ _)))
theorem ar290 {n0 : Nat} {n1 : Nat} {n2 : Nat} {n3 : Nat} {n4 : Nat} (h0 : (((n0 + (n1 + 1)) : Nat) ≤ (n2 + n3))) (h1 : ((n4 : Nat) ≤ (n0 + 1))) : (((n4 + n1) : Nat) ≤ (n2 + n3)) := Nat.le_trans (Nat.add_le_add_right h1 _) (Nat.le_trans (Nat.le_of_eq (Nat.succ_add_eq_add_succ _ _)) h0)
theorem ar291 {n0 : Nat} {n1 : Nat} {n2 : Nat} {n3 : Nat} {n4 : Nat} (h0 : ((n0 : Nat) < n1)) (h1 : (((n2 + 1) : Nat) = ((n3 - n4) + (n1 - n0)))) : ((n2 : Nat) = ((n3 - n4) + (n1 - (n0 + 1)))) := Nat.succ.inj (h1.trans (congrArg ((n3 - n4) + ·) (ar126 h0)))
theorem ar292 {n0 : Nat} {n1 : Nat} {n2 : Nat} {n3 : Nat} (h0 : ((n0 : Nat) ≤ n1)) (h1 : ((n2 : Nat) ≤ n3)) (h2 : ((¬ ((n0 : Nat) < n1)) ∨ (¬ ((n2 : Nat) < n3)))) : (((n0 : Nat) = n1) ∨ ((n2 : Nat) = n3)) := h2.elim (fun h => .inl (Nat.le_antisymm h0 (Nat.not_lt.mp h))) (fun h => .inr (Nat.le_antisymm h1 (Nat.not_lt.mp h)))
theorem ar293 {n0 : Nat} {n1 : Nat} {n2 : Nat} {n3 : Nat} (h0 : ((n0 : Nat) ≤ 100)) (h1 : ((n1 : Nat) ≤ 100)) (h2 : (((n2 + n3) : Nat) ≤ (n0 + n1))) : ((n2 : Nat) ≤ 1000000) := Nat.le_trans (Nat.le_add_right _ _) (Nat.le_trans h2 (Nat.le_trans (Nat.add_le_add h0 h1) (by decide)))
theorem ar294 {n0 : Nat} {n1 : Nat} {n2 : Nat} (h0 : ((n0 : Nat) ≤ 1)) (h1 : ((n1 : Nat) ≤ (n2 + n0))) (h2 : ((n2 : Nat) ≤ 100)) : ((n1 : Nat) ≤ 101) := Nat.le_trans h1 (Nat.le_trans (Nat.add_le_add h2 h0) (by decide))
theorem ar295 {n0 : Nat} {p1 : Prop} (h0 : ((((((n0 : Nat) : Int) + (1 : Int)) + (1 : Int)) : Int) = (1 : Int))) : p1 := by (rcases h0 with h0 | h0 <;> subst h0 <;> decide)
theorem ar296 : ((8 : Nat) ≤ 1000) := Nat.le_add_left _ _
theorem ar297 {n0 : Nat} (h0 : ((2 : Nat) ≤ n0)) : ((n0 : Nat) = ((n0 - 2) + 2)) := (Nat.sub_add_cancel (h0)).symm
theorem ar298 {n0 : Nat} {n1 : Nat} (h0 : (¬ ((n0 : Nat) ≤ n1))) : ((n1 : Nat) ≤ n0) := Nat.le_of_not_le h0
theorem ar299 {n0 : Nat} {n1 : Nat} (h0 : ((n0 : Nat) = (n1 + 1))) : ((1 : Int) ≤ ((n0 : Nat) : Int)) := Int.ofNat_le.mpr (h0 ▸ Nat.succ_pos _)
theorem ar300 {n0 : Nat} : (((((n0 : Nat) : Int) - (1 : Int)) : Int) < ((n0 : Nat) : Int)) := by simp +arith
theorem ar301 {n0 : Nat} {n1 : Nat} (h0 : ((n0 : Nat) = (n1 + 1))) : (((n0 - 1) : Nat) = n1) := by (subst h0; rfl)
theorem ar302 {n0 : Nat} {n1 : Nat} (h0 : ((n0 : Nat) = (n1 + 1))) : (((((n0 : Nat) : Int) - (1 : Int)) : Int) = ((n1 : Nat) : Int)) := by (subst h0; simp)
theorem ar303 {n0 : Nat} {n1 : Nat} {n2 : Nat} (h0 : (((n0 + (n1 + n2)) : Nat) ≤ 1000)) : (((n0 + n1) : Nat) ≤ 1000) := Nat.le_trans (Nat.add_le_add_left (Nat.le_add_right _ _) _) h0
theorem ar304 {n0 : Nat} {n1 : Nat} (h0 : (((n0 + n1) : Nat) ≤ 1000)) : (((n0 + n1) : Nat) ≤ 1000000) := Nat.le_trans (h0) (by decide)
theorem ar305 {n0 : Nat} {n1 : Nat} (h0 : (((n0 + (n1 + 1)) : Nat) ≤ 1000)) : (((n0 + n1) : Nat) ≤ 1000000) := Nat.le_trans (Nat.le_of_succ_le h0) (by decide)
theorem ar306 {i0 : Int} {n1 : Nat} {n2 : Nat} (h0 : ((i0 : Int) < ((n1 : Nat) : Int))) (h1 : ((i0 : Int) = ((n2 : Nat) : Int))) : ((n2 : Nat) < n1) := Int.ofNat_lt.mp (h1 ▸ h0)
theorem ar307 {n0 : Nat} {n1 : Nat} {p2 : Prop} (h0 : (((((n0 : Nat) : Int) + (((n1 : Nat) : Int) + (1 : Int))) : Int) ≤ ((n0 : Nat) : Int))) : p2 := by grind
theorem ar308 {n0 : Nat} (h0 : ((n0 : Nat) ≤ 900)) : ((n0 : Nat) ≤ 999999) := Nat.le_trans (h0) (by decide)
theorem ar309 : (((((0 + 1) + 1) + 1) : Nat) ≤ 1000) := Nat.le_add_left _ _
theorem ar310 : ((((((0 + 1) + 1) + 1) + 1) : Nat) ≤ 1000) := Nat.le_add_left _ _
theorem ar311 : (((((((0 + 1) + 1) + 1) + 1) + 1) : Nat) ≤ 1000) := Nat.le_add_left _ _
theorem ar312 : ((((((((0 + 1) + 1) + 1) + 1) + 1) + 1) : Nat) ≤ 1000) := Nat.le_add_left _ _
theorem ar313 : (((((((((0 + 1) + 1) + 1) + 1) + 1) + 1) + 1) : Nat) ≤ 1000) := Nat.le_add_left _ _
theorem ar314 {n0 : Nat} (h0 : ((n0 : Nat) ≤ 3)) : ((n0 : Nat) ≤ 1000) := Nat.le_trans (h0) (by decide)
theorem ar315 {n0 : Nat} {n1 : Nat} (h0 : ((n0 : Nat) ≤ 3)) (h1 : ((n1 : Nat) ≤ n0)) : ((n1 : Nat) ≤ 3) := Nat.le_trans (h1) (h0)
theorem ar316 {n0 : Nat} (h0 : ((n0 : Nat) ≤ 1000)) : ((n0 : Nat) ≤ 16777216) := Nat.le_trans (h0) (by decide)
theorem ar317 {n0 : Nat} {n1 : Nat} (h0 : ((n0 : Nat) ≤ 1000000)) (h1 : ((n1 : Nat) = n0)) : ((n1 : Nat) ≤ 16777216) := Nat.le_trans (Nat.le_of_eq (h1)) (Nat.le_trans (h0) (by decide))
theorem ar318 {n0 : Nat} {n1 : Nat} {n2 : Nat} {p3 : Prop} (h0 : ((n0 : Nat) = n1)) (h1 : (((n1 - n0) : Nat) = (n2 + 1))) : p3 := by simp_all
theorem ar319 {n0 : Nat} {n1 : Nat} {n2 : Nat} (h0 : ((((n0 + (4 * (n1 + 1))) + 4) : Nat) < n2)) : ((n0 : Nat) < n2) := Nat.lt_of_le_of_lt (Nat.le_trans (Nat.le_add_right _ _) (Nat.le_add_right _ _)) h0
theorem ar320 {n0 : Nat} {n1 : Nat} {n2 : Nat} (h0 : ((((n0 + (4 * (n1 + 1))) + 4) : Nat) < n2)) : (((((n0 + 1) + (4 * n1)) + 4) : Nat) < n2) := Nat.lt_of_le_of_lt (Nat.add_le_add_right (Nat.le_trans (Nat.le_of_eq (Nat.add_right_comm _ _ _)) (Nat.add_le_add_left (by decide : 1 ≤ 4) _)) 4) h0
theorem ar321 {n0 : Nat} {n1 : Nat} {n2 : Nat} (h0 : (((n0 + (100 * ((n1 + 1) + 1))) : Nat) < n2)) : ((((n0 + 3) + (100 * (n1 + 1))) : Nat) < n2) := Nat.lt_of_le_of_lt (Nat.le_trans (Nat.le_of_eq (Nat.add_right_comm _ _ _)) (Nat.add_le_add_left (by decide : 3 ≤ 100) _)) (Nat.lt_of_le_of_lt (Nat.le_of_eq rfl) h0)
theorem ar322 {n0 : Nat} : ((n0 : Nat) ≤ (n0 + 1)) := Nat.le_add_right _ _
theorem ar323 {n0 : Nat} : (((n0 + 1) : Nat) ≤ (n0 + 1)) := Nat.lt_succ_self _
theorem ar324 {n0 : Nat} {n1 : Nat} {n2 : Nat} (h0 : ((n0 : Nat) ≤ 1000)) (h1 : ((n1 : Nat) ≤ n2)) (h2 : ((n2 : Nat) ≤ (n0 + 1))) : ((n1 : Nat) ≤ (16777216 + 1)) := Nat.le_trans h1 (Nat.le_trans h2 (Nat.le_trans (Nat.succ_le_succ h0) (by decide)))
theorem ar325 {n0 : Nat} {i1 : Int} {n2 : Nat} (h0 : ((n0 : Nat) ≤ 1000000)) (h1 : ((((-((n0 : Nat) : Int)) : Int) ≤ i1) ∧ (((i1 : Int) < ((n0 : Nat) : Int)) ∧ (((n2 : Nat) < n0) ∧ ((((0 : Int) ≤ i1) → ((n2 : Nat) = (Int.toNat i1))) ∧ (((i1 : Int) < (0 : Int)) → ((n2 : Nat) = (Int.toNat (i1 + ((n0 : Nat) : Int)))))))))) : ((((-((2 : Int) ^ 63)) : Int) ≤ i1) ∧ ((i1 : Int) < ((2 : Int) ^ 63))) := ⟨ix1 h0 h1, ix2 h0 h1⟩
theorem ar326 {n0 : Nat} {n1 : Nat} (h0 : ((n0 : Nat) ≤ 1000000)) (h1 : ((n1 : Nat) = n0)) : ((n1 : Nat) ≤ 1000000) := Nat.le_trans (Nat.le_of_eq h1) (h0)
theorem ar327 {n0 : Nat} (h0 : ((n0 : Nat) ≤ 1000000)) : ((n0 : Nat) ≤ 16777216) := Nat.le_trans (h0) (by decide)
theorem ar328 {n0 : Nat} : (((n0 + 1) : Nat) ≠ n0) := (Nat.ne_of_lt (Nat.lt_succ_self _)).symm
theorem ar329 {n0 : Nat} {n1 : Nat} {n2 : Nat} (h0 : (((n0 + (100 * ((n1 + 1) + 1))) : Nat) < n2)) : ((((n0 + 1) + (100 * (n1 + 1))) : Nat) < n2) := Nat.lt_of_le_of_lt (Nat.le_trans (Nat.le_of_eq (Nat.add_right_comm _ _ _)) (Nat.add_le_add_left (by decide : 1 ≤ 100) _)) (Nat.lt_of_le_of_lt (Nat.le_of_eq rfl) h0)
theorem ar330 {n0 : Nat} {n1 : Nat} {n2 : Nat} (h0 : (((n0 + (100 * (n1 + 1))) : Nat) < n2)) : ((n0 : Nat) < n2) := Nat.lt_of_le_of_lt (Nat.le_add_right _ _) h0
theorem ar331 {n0 : Nat} {n1 : Nat} {n2 : Nat} (h0 : ((n0 : Nat) ≤ 1000)) (h1 : ((n1 : Nat) ≤ n2)) (h2 : ((n2 : Nat) ≤ n0)) : ((n1 : Nat) ≤ 16777216) := Nat.le_trans h1 (Nat.le_trans h2 (Nat.le_trans h0 (by decide)))
theorem ar332 {n0 : Nat} {n1 : Nat} (h0 : ((n0 : Nat) < n1)) : (((n1 - (n0 + 1)) : Nat) < (n1 - n0)) := Nat.sub_lt_sub_left h0 (Nat.lt_succ_self _)
theorem ar333 {n0 : Nat} {n1 : Nat} {n2 : Nat} (h0 : ((n0 : Nat) ≤ n1)) (h1 : ((n0 : Nat) = n2)) : ((n2 : Nat) ≤ n1) := by (subst h1; exact h0)
theorem ar334 {n0 : Nat} (h0 : ((3 : Nat) < n0)) : (((n0 + 1) : Nat) ≠ 1) := fun h => absurd (Nat.succ.inj h ▸ h0) (by decide)
theorem ar335 {n0 : Nat} (h0 : ((n0 : Nat) ≤ 3)) : ((n0 : Nat) ≤ 16777216) := Nat.le_trans (h0) (by decide)
theorem ar336 {n0 : Nat} (h0 : ((n0 : Nat) ≤ 3)) : ((n0 : Nat) ≤ (16777216 + 1)) := Nat.le_trans (h0) (by decide)
theorem ar337 {n0 : Nat} (h0 : (¬ ((n0 : Nat) < 2))) : ((2 : Nat) ≤ n0) := Nat.not_lt.mp h0
theorem ar338 {n0 : Nat} {n1 : Nat} (h0 : ((2 : Nat) ≤ n0)) (h1 : ((n1 : Nat) = n0)) : ((0 : Nat) < n1) := h1 ▸ Nat.le_trans (by decide) h0
theorem ar339 {n0 : Nat} (h0 : ((n0 : Nat) ≤ 3)) (h1 : ((2 : Nat) ≤ n0)) : (((n0 : Nat) = 2) ∨ ((n0 : Nat) = 3)) := (Nat.lt_or_eq_of_le h0).elim (fun h => .inl (Nat.le_antisymm (Nat.le_of_lt_succ h) h1)) .inr
theorem ar340 {n0 : Nat} (h0 : ((n0 : Nat) ≤ 3)) : ((n0 : Nat) < 64) := Nat.lt_of_le_of_lt (h0) (by decide)
theorem ar341 {n0 : Nat} {n1 : Nat} (h0 : ((n0 : Nat) ≤ 3)) (h1 : ((n1 : Nat) = n0)) : ((n1 : Nat) ≤ 16777216) := Nat.le_trans (Nat.le_of_eq (h1)) (Nat.le_trans (h0) (by decide))
theorem ar342 {n0 : Nat} {n1 : Nat} (h0 : ((n0 : Nat) = n1)) : ((n0 : Nat) = n1) := h0
theorem ar343 {n0 : Nat} {n1 : Nat} (h0 : ((n0 : Nat) ≤ 3)) (h1 : ((n1 : Nat) = n0)) : ((n1 : Nat) ≤ 3) := Nat.le_trans (Nat.le_of_eq h1) (h0)
theorem ar344 {n0 : Nat} {n1 : Nat} {n2 : Nat} (h0 : ((n0 : Nat) ≤ 3)) (h1 : ((n1 : Nat) = n0)) (h2 : ((n1 : Nat) = n2)) : ((n2 : Nat) ≤ 3) := by (subst h2 h1; omega)
theorem ar345 {n0 : Nat} {n1 : Nat} (h0 : ((n0 : Nat) ≤ (n1 - 1))) (h1 : ((0 : Nat) < n1)) : (((n0 + 1) : Nat) ≤ n1) := Nat.lt_of_le_of_lt h0 (Nat.pred_lt (Nat.ne_of_gt h1))
theorem ar346 {n0 : Nat} {n1 : Nat} {n2 : Nat} (h0 : ((n0 : Nat) = n1)) (h1 : ((n2 : Nat) ≤ n0)) : ((n2 : Nat) < (n1 + 1)) := h0 ▸ Nat.lt_succ_of_le h1
theorem ar347 {n0 : Nat} {n1 : Nat} (h0 : ((n0 : Nat) = n1)) (h1 : ((n1 : Nat) ≤ 3)) : ((n0 : Nat) < 4096) := by (subst h0; exact Nat.lt_of_le_of_lt (h1) (by decide))
theorem ar348 {n0 : Nat} {n1 : Nat} (h0 : ((n0 : Nat) = n1)) (h1 : ((n1 : Nat) ≤ 3)) : (((n0 + 1) : Nat) ≤ 16777216) := by (subst h0; exact Nat.lt_of_le_of_lt (h1) (by decide))
theorem ar349 {n0 : Nat} {n1 : Nat} {n2 : Nat} (h0 : (((n0 + (100 * (n1 + 1))) : Nat) < n2)) : (((n0 + 64) : Nat) < n2) := Nat.lt_of_le_of_lt (Nat.add_le_add_left (Nat.le_trans (by decide) (Nat.le_add_left 100 _)) _) h0
theorem ar350 {p0 : Prop} {n1 : Nat} {n2 : Nat} {n3 : Nat} {n4 : Nat} (h0 : (p0 ∧ ((n1 : Nat) ≤ 8))) (h1 : (((n2 + 64) : Nat) < n3)) : ((((n2 + 1) + (min n4 n1)) : Nat) < n3) := Nat.lt_of_le_of_lt (Nat.le_trans (Nat.add_le_add_left (Nat.le_trans (Nat.min_le_right _ _) h0.2) _) (Nat.add_le_add_left (by decide : 9 ≤ 64) n2)) h1
theorem ar351 {n0 : Nat} {n1 : Nat} {n2 : Nat} {n3 : Nat} (h0 : (((n0 + n1) : Nat) ≤ 10000)) (h1 : ((n2 : Nat) = n0)) (h2 : ((n3 : Nat) = n1)) : (((n2 + n3) : Nat) ≤ 16777216) := h1 ▸ h2 ▸ Nat.le_trans h0 (by decide)
theorem ar352 {n0 : Nat} {n1 : Nat} (h0 : (((n0 - n1) : Nat) = 0)) (h1 : ((n1 : Nat) ≤ n0)) : ((n1 : Nat) = n0) := Nat.le_antisymm h1 (Nat.sub_eq_zero_iff_le.mp h0)
theorem ar353 {n0 : Nat} {n1 : Nat} {n2 : Nat} (h0 : (((n0 - n1) : Nat) = (n2 + 1))) : ((n1 : Nat) < n0) := Nat.lt_of_sub_pos (h0 ▸ Nat.succ_pos _)
theorem ar354 {n0 : Nat} {n1 : Nat} {n2 : Nat} (h0 : (((n0 - n1) : Nat) = (n2 + 1))) : (((n0 - (n1 + 1)) : Nat) = n2) := congrArg Nat.pred h0
theorem ar355 {n0 : Nat} : (((n0 - 0) : Nat) = (n0 - 0)) := by simp +arith
theorem ar356 {n0 : Nat} {n1 : Nat} (h0 : (((n0 + 1) : Nat) = n1)) : ((0 : Nat) < n1) := Nat.lt_of_le_of_lt (Nat.zero_le _) (Nat.le_of_eq h0)
theorem ar357 {n0 : Nat} {n1 : Nat} (h0 : (((n0 + 1) : Nat) = n1)) : ((n0 : Nat) = (n1 - 1)) := h0 ▸ rfl
theorem ar358 {n0 : Nat} {n1 : Nat} {n2 : Nat} {n3 : Nat} {n4 : Nat} (h0 : ((n0 : Nat) < n1)) (h1 : (((n2 : Nat) = n1) ∧ ((n3 : Nat) ≤ n4))) : ((n0 : Nat) < n2) := by simp_all
theorem ar359 {n0 : Nat} {n1 : Nat} (h0 : ((n0 : Nat) ≤ n1)) (h1 : (¬ ((n0 : Nat) < n1))) : ((n0 : Nat) = n1) := Nat.le_antisymm (h0) (Nat.not_lt.mp h1)
theorem ar360 {n0 : Nat} {n1 : Nat} (h0 : ((n0 : Nat) < n1)) : ((n0 : Nat) ≤ n1) := Nat.le_of_succ_le h0
theorem ar361 {n0 : Nat} {n1 : Nat} (h0 : ((n0 : Nat) < n1)) : (¬ ((n0 : Nat) = n1)) := Nat.ne_of_lt (h0)
theorem ar362 {n0 : Nat} {n1 : Nat} (h0 : ((n0 : Nat) = n1)) (h1 : ((n1 : Nat) ≤ 3)) : ((n0 : Nat) ≤ 16777216) := Nat.le_trans (Nat.le_of_eq (h0)) (Nat.le_trans (h1) (by decide))
theorem ar363 {n0 : Nat} {n1 : Nat} (h0 : ((n0 : Nat) ≤ 3)) (h1 : ((n1 : Nat) = n0)) : ((n1 : Nat) < 64) := by (subst h1; exact Nat.lt_of_le_of_lt (h0) (by decide))
theorem ar364 {n0 : Nat} {n1 : Nat} {n2 : Nat} (h0 : (¬ ((n0 : Nat) < n1))) (h1 : ((n2 : Nat) = n1)) : ((n2 : Nat) ≤ n0) := Nat.le_trans (Nat.le_of_eq h1) (Nat.not_lt.mp h0)
theorem ar365 {i0 : Int} {n1 : Nat} (h0 : (((0 : Int) ≤ (i0 + ((n1 : Nat) : Int))) ∧ (((i0 + ((n1 : Nat) : Int)) : Int) < ((n1 : Nat) : Int)))) : ((((-((n1 : Nat) : Int)) : Int) ≤ i0) ∧ (((i0 : Int) < ((n1 : Nat) : Int)) ∧ ((((Int.toNat (i0 + ((n1 : Nat) : Int))) : Nat) < n1) ∧ ((((0 : Int) ≤ i0) → (((Int.toNat (i0 + ((n1 : Nat) : Int))) : Nat) = (Int.toNat i0))) ∧ (((i0 : Int) < (0 : Int)) → (((Int.toNat (i0 + ((n1 : Nat) : Int))) : Nat) = (Int.toNat (i0 + ((n1 : Nat) : Int))))))))) := ⟨by lia, by lia, (Int.toNat_lt h0.1).mpr h0.2, fun h => by lia, fun _ => rfl⟩
theorem ar366 {i0 : Int} {n1 : Nat} (h0 : (((0 : Int) ≤ i0) ∧ ((i0 : Int) < ((n1 : Nat) : Int)))) : ((((-((n1 : Nat) : Int)) : Int) ≤ i0) ∧ (((i0 : Int) < ((n1 : Nat) : Int)) ∧ ((((Int.toNat i0) : Nat) < n1) ∧ ((((0 : Int) ≤ i0) → (((Int.toNat i0) : Nat) = (Int.toNat i0))) ∧ (((i0 : Int) < (0 : Int)) → (((Int.toNat i0) : Nat) = (Int.toNat (i0 + ((n1 : Nat) : Int))))))))) := ⟨Int.le_trans (Int.neg_nonpos_of_nonneg (Int.natCast_nonneg _)) h0.1, h0.2, (Int.toNat_lt h0.1).mpr h0.2, fun _ => rfl, fun h => absurd h0.1 (Int.not_le.mpr h)⟩
theorem ar367 {i0 : Int} (h0 : ((0 : Int) ≤ i0)) : (¬ ((i0 : Int) < (0 : Int))) := Int.not_lt.mpr (h0)
theorem ar368 {i0 : Int} {n1 : Nat} (h0 : ((0 : Int) ≤ i0)) (h1 : ((i0 : Int) < ((n1 : Nat) : Int))) : (((0 : Int) ≤ i0) ∧ ((i0 : Int) < ((n1 : Nat) : Int))) := by exact ⟨by omega, by omega⟩
theorem ar369 {n0 : Nat} {i1 : Int} {n2 : Nat} (h0 : ((n0 : Nat) ≤ 1000000)) (h1 : ((((-((n0 : Nat) : Int)) : Int) ≤ i1) ∧ (((i1 : Int) < ((n0 : Nat) : Int)) ∧ (((n2 : Nat) < n0) ∧ ((((0 : Int) ≤ i1) → ((n2 : Nat) = (Int.toNat i1))) ∧ (((i1 : Int) < (0 : Int)) → ((n2 : Nat) = (Int.toNat (i1 + ((n0 : Nat) : Int)))))))))) : (((-((2 : Int) ^ 63)) : Int) ≤ i1) := Int.le_trans (by decide : _ ≤ (-((2 : Int) ^ 62))) (ix0 h0 h1)
theorem ar370 {n0 : Nat} {i1 : Int} {n2 : Nat} (h0 : ((n0 : Nat) ≤ 1000000)) (h1 : ((((-((n0 : Nat) : Int)) : Int) ≤ i1) ∧ (((i1 : Int) < ((n0 : Nat) : Int)) ∧ (((n2 : Nat) < n0) ∧ ((((0 : Int) ≤ i1) → ((n2 : Nat) = (Int.toNat i1))) ∧ (((i1 : Int) < (0 : Int)) → ((n2 : Nat) = (Int.toNat (i1 + ((n0 : Nat) : Int)))))))))) : ((i1 : Int) < ((2 : Int) ^ 63)) := Int.lt_of_lt_of_le h1.2.1 (Int.le_trans (Int.ofNat_le.mpr h0) (by decide))
theorem ar371 {i0 : Int} (h0 : (¬ ((0 : Int) ≤ i0))) : ((i0 : Int) < (0 : Int)) := Int.not_le.mp h0
theorem ar372 {n0 : Nat} {i1 : Int} {n2 : Nat} {n3 : Nat} (h0 : ((((-((n0 : Nat) : Int)) : Int) ≤ i1) ∧ (((i1 : Int) < ((n0 : Nat) : Int)) ∧ (((n2 : Nat) < n0) ∧ ((((0 : Int) ≤ i1) → ((n2 : Nat) = (Int.toNat i1))) ∧ (((i1 : Int) < (0 : Int)) → ((n2 : Nat) = (Int.toNat (i1 + ((n0 : Nat) : Int)))))))))) (h1 : ((n3 : Nat) = n0)) : (((-((n3 : Nat) : Int)) : Int) ≤ i1) := by simp_all
theorem ar373 {n0 : Nat} : ((0 : Int) < (((n0 + 1) : Nat) : Int)) := by simp
theorem ar374 {n0 : Nat} {n1 : Nat} {n2 : Nat} (h0 : (((n0 + (n1 + 1)) : Nat) ≤ n2)) : ((n0 : Nat) ≤ n2) := Nat.le_of_add_right_le h0
theorem ar375 {n0 : Nat} {n1 : Nat} {n2 : Nat} (h0 : (((n0 + (n1 + 1)) : Nat) ≤ n2)) : ((((n0 + 1) + n1) : Nat) ≤ n2) := Nat.le_trans (Nat.le_of_eq (Nat.succ_add_eq_add_succ _ _)) h0
theorem ar376 {n0 : Nat} : ((((((n0 + 1) : Nat) : Int) - (1 : Int)) : Int) = ((n0 : Nat) : Int)) := by simp +arith
theorem ar377 {i0 : Int} (h0 : (((-1000000 : Int) ≤ i0) ∧ ((i0 : Int) ≤ (1000000 : Int)))) : (((-((2 : Int) ^ 62)) : Int) ≤ i0) := Int.le_trans (by decide) (h0.1)
theorem ar378 {i0 : Int} (h0 : (((-1000000 : Int) ≤ i0) ∧ ((i0 : Int) ≤ (1000000 : Int)))) : ((i0 : Int) < ((2 : Int) ^ 62)) := Int.lt_of_le_of_lt h0.2 (by decide)
theorem ar379 {i0 : Int} {i1 : Int} (h0 : (((-1000000 : Int) ≤ i0) ∧ ((i0 : Int) ≤ (1000000 : Int)))) (h1 : (((-1000000 : Int) ≤ i1) ∧ ((i1 : Int) ≤ (1000000 : Int)))) : (((Int.toNat (i1 - i0)) : Nat) ≤ (2 ^ 24)) := Nat.le_trans (tn2m h0 h1) (by decide)
theorem ar380 {i0 : Int} {i1 : Int} {n2 : Nat} (h0 : (((-1000000 : Int) ≤ i0) ∧ ((i0 : Int) ≤ (1000000 : Int)))) (h1 : (((-1000000 : Int) ≤ i1) ∧ ((i1 : Int) ≤ (1000000 : Int)))) (h2 : ((n2 : Nat) ≤ 1000000)) : (((n2 + (Int.toNat (i1 - i0))) : Nat) ≤ 16777216) := Nat.le_trans (Nat.add_le_add h2 (tn2m h0 h1)) (by decide)
theorem ar381 {n0 : Nat} (h0 : ((n0 : Nat) ≤ 1000000)) : ((n0 : Nat) ≤ 16777215) := Nat.le_trans (h0) (by decide)
theorem ar382 {n0 : Nat} (h0 : ((n0 : Nat) ≤ 1000000)) : ((n0 : Nat) ≤ 16777217) := Nat.le_trans (h0) (by decide)
theorem ar383 {n0 : Nat} {n1 : Nat} (h0 : ((n0 : Nat) ≤ 1000000)) (h1 : ((n1 : Nat) = n0)) : ((((n1 : Nat) : Int) : Int) < ((2 : Int) ^ 63)) := Int.lt_of_le_of_lt (Int.ofNat_le.mpr (h1 ▸ h0)) (by decide)
theorem ar384 {i0 : Int} {i1 : Int} (h0 : ((i0 : Int) > i1)) : (((max i1 i0) : Int) = i0) := Int.max_eq_right (Int.le_of_lt h0)
theorem ar385 {i0 : Int} {i1 : Int} (h0 : (¬ ((i0 : Int) > i1))) : (((max i1 i0) : Int) = i1) := Int.max_eq_left (Int.not_lt.mp h0)
theorem ar386 {i0 : Int} {i1 : Int} (h0 : ((i0 : Int) < i1)) : (((min i1 i0) : Int) = i0) := Int.min_eq_right (Int.le_of_lt h0)
theorem ar387 {i0 : Int} {i1 : Int} (h0 : (¬ ((i0 : Int) < i1))) : (((min i1 i0) : Int) = i1) := Int.min_eq_left (Int.not_lt.mp h0)
theorem ar388 {n0 : Nat} {n1 : Nat} {n2 : Nat} (h0 : (((n0 + n1) : Nat) ≤ 1000000)) (h1 : ((n2 : Nat) = n0)) : ((n2 : Nat) ≤ 16777216) := h1 ▸ Nat.le_trans (Nat.le_add_right _ _) (Nat.le_trans h0 (by decide))
theorem ar389 {n0 : Nat} {n1 : Nat} {n2 : Nat} {n3 : Nat} (h0 : (((n0 + n1) : Nat) ≤ 1000000)) (h1 : ((n2 : Nat) = n0)) (h2 : ((n3 : Nat) = n1)) : (((n2 + n3) : Nat) ≤ (16777216 + 1)) := h1 ▸ h2 ▸ Nat.le_trans h0 (by decide)
theorem ar390 {n0 : Nat} {n1 : Nat} {n2 : Nat} {n3 : Nat} (h0 : (((n0 + n1) : Nat) ≤ 1000000)) (h1 : ((n2 : Nat) = n0)) (h2 : ((n3 : Nat) = n1)) : (((n2 + n3) : Nat) ≤ 16777216) := h1 ▸ h2 ▸ Nat.le_trans h0 (by decide)
theorem ar391 {n0 : Nat} {n1 : Nat} (h0 : ((n0 : Nat) ≤ 1000000)) (h1 : ((n1 : Nat) = (n0 + 1))) : ((n1 : Nat) ≤ 16777216) := Nat.le_trans (Nat.le_of_eq (h1)) (Nat.le_trans (Nat.add_le_add_right (h0) _) (by decide))
theorem ar392 {n0 : Nat} {n1 : Nat} (h0 : ((n0 : Nat) = (n1 + 1))) : (((n0 - 1) : Nat) < n0) := by (subst h0; simp)
theorem ar393 {n0 : Nat} {n1 : Nat} (h0 : ((n0 : Nat) = (n1 + 1))) : ((n0 : Nat) ≤ (n1 + 1)) := Nat.le_of_eq h0
theorem ar394 {n0 : Nat} {n1 : Nat} (h0 : (((n0 + 1) : Nat) < (n1 + 1))) : ((n0 : Nat) < n1) := Nat.lt_of_succ_lt_succ h0
theorem ar395 {i0 : Int} {i1 : Int} {n2 : Nat} : ((((i0 + i1) + (((n2 : Nat) : Int) * i1)) : Int) = (i0 + ((((n2 : Nat) : Int) * i1) + i1))) := by simp +arith
theorem ar396 {i0 : Int} {n1 : Nat} {n2 : Nat} (h0 : ((i0 : Int) = ((n1 : Nat) : Int))) (h1 : ((n2 : Nat) < n1)) : ((0 : Int) < (i0 - ((n2 : Nat) : Int))) := Int.sub_pos_of_lt (h0 ▸ Int.ofNat_lt.mpr h1)
theorem ar397 {i0 : Int} {n1 : Nat} {i2 : Int} : (((i0 + ((((n1 : Nat) : Int) * i2) + i2)) : Int) = ((i0 + (((n1 : Nat) : Int) * i2)) + i2)) := by simp +arith
theorem ar398 {i0 : Int} {n1 : Nat} : (((i0 - (((n1 : Nat) : Int) + (1 : Int))) : Int) = ((i0 - ((n1 : Nat) : Int)) - (1 : Int))) := by simp +arith
theorem ar399 {i0 : Int} {n1 : Nat} {n2 : Nat} (h0 : ((i0 : Int) = ((n1 : Nat) : Int))) (h1 : (¬ ((n2 : Nat) < n1))) : (((i0 - ((n2 : Nat) : Int)) : Int) ≤ (0 : Int)) := Int.sub_nonpos_of_le (h0 ▸ Int.ofNat_le.mpr (Nat.not_lt.mp h1))
theorem ar400 {n0 : Nat} (h0 : (((n0 + 1) : Nat) ≤ n0)) : False := absurd (Nat.lt_of_succ_le h0) (Nat.not_succ_le_self _)
theorem ar401 {n0 : Nat} {n1 : Nat} {n2 : Nat} (h0 : ((n0 : Nat) = (n1 + 1))) (h1 : (((n1 + 1) : Nat) ≤ n2)) : ((n0 : Nat) ≤ n2) := Nat.le_trans (Nat.le_of_eq h0) (h1)
theorem ar402 {i0 : Int} (h0 : (((-3 : Int) ≤ i0) ∧ ((i0 : Int) ≤ (6 : Int)))) : (((Int.toNat (i0 + (3 : Int))) : Nat) < 10) := (Int.toNat_lt (Int.add_le_add_right h0.1 3)).mpr (Int.lt_of_le_of_lt (Int.add_le_add_right h0.2 3) (by decide))
theorem ar403 {i0 : Int} (h0 : (((-3 : Int) ≤ i0) ∧ ((i0 : Int) ≤ (6 : Int)))) : ((i0 : Int) = ((((Int.toNat (i0 + (3 : Int))) : Nat) : Int) - (3 : Int))) := (Int.add_sub_cancel i0 3).symm.trans (congrArg (· - 3) (Int.toNat_of_nonneg (Int.add_le_add_right h0.1 3)).symm)
theorem ar404 {i0 : Int} {i1 : Int} {i2 : Int} (h0 : ((i0 : Int) < i1)) (h1 : ((i1 : Int) ≤ i2)) : (((i0 + (1 : Int)) : Int) ≤ i2) := Int.lt_of_lt_of_le (h0) (h1)
theorem ar405 {i0 : Int} : (¬ (((i0 + (1 : Int)) : Int) ≤ i0)) := by simp +arith
theorem ar406 {i0 : Int} {i1 : Int} {i2 : Int} (h0 : ((i0 : Int) < i1)) (h1 : ((i2 : Int) ≤ i0)) : ((i2 : Int) ≤ (i1 - (1 : Int))) := Int.le_sub_one_of_lt (Int.lt_of_le_of_lt h1 h0)
theorem ar407 {i0 : Int} : (¬ ((i0 : Int) ≤ (i0 - (1 : Int)))) := by simp +arith
theorem ar408 {n0 : Nat} {n1 : Nat} {n2 : Nat} : ((((n0 + n1) + n2) : Nat) = ((n2 + n1) + n0)) := by simp +arith
theorem ar409 {n0 : Nat} {n1 : Nat} {n2 : Nat} {n3 : Nat} {n4 : Nat} (h0 : (((n0 + n1) : Nat) = (n2 + n3))) : ((((n4 + n0) + n1) : Nat) = ((n4 + n2) + n3)) := by rw [Nat.add_assoc, h0, Nat.add_assoc]
theorem ar410 {n0 : Nat} {n1 : Nat} {n2 : Nat} {n3 : Nat} {n4 : Nat} (h0 : ((n0 : Nat) < n1)) (h1 : (((n2 + n1) : Nat) = (n3 + n0))) (h2 : (((n4 + n3) : Nat) ≤ 14)) : ((((n4 + 1) + n2) : Nat) ≤ 14) := by have := Nat.add_lt_add_left h0 n2; rw [h1] at this; exact Nat.le_trans (by rw [Nat.add_right_comm]; exact Nat.add_le_add_left (Nat.lt_of_add_lt_add_right this) _) h2
theorem ar411 {n0 : Nat} {n1 : Nat} {n2 : Nat} {n3 : Nat} (h0 : ((n0 : Nat) < n1)) (h1 : (((n2 + n1) : Nat) = (n3 + n0))) : ((n2 : Nat) < n3) := Nat.lt_of_add_lt_add_right (Nat.lt_of_lt_of_eq (Nat.add_lt_add_left h0 n2) h1)
theorem ar412 {n0 : Nat} {n1 : Nat} {n2 : Nat} (h0 : ((n0 : Nat) < n1)) (h1 : ((n1 : Nat) < n2)) : ((n0 : Nat) < n2) := Nat.lt_trans h0 h1
theorem ar413 {n0 : Nat} {n1 : Nat} {p2 : Prop} (h0 : ((n0 : Nat) < n1)) (h1 : ((n1 : Nat) < n0)) : p2 := absurd (h0) (Nat.lt_asymm (h1))
theorem ar414 {n0 : Nat} (h0 : ((1 : Int) ≤ ((n0 : Nat) : Int))) : ((1 : Nat) ≤ n0) := Int.ofNat_lt.mp h0
theorem ar415 {n0 : Nat} {n1 : Nat} {n2 : Nat} (h0 : ((n0 : Nat) = (n1 + 2))) (h1 : ((((n2 : Nat) : Int) : Int) ≤ (((n0 : Nat) : Int) - (2 : Int)))) : ((n2 : Nat) ≤ n1) := Int.ofNat_le.mp (by rw [h0] at h1; exact Int.le_trans h1 (Int.le_of_eq (Int.add_sub_cancel (n1 : Int) 2)))
theorem ar416 {n0 : Nat} (h0 : ((1 : Nat) ≤ n0)) : ((1 : Int) ≤ ((n0 : Nat) : Int)) := Int.ofNat_le.mpr (h0)
theorem ar417 {n0 : Nat} {n1 : Nat} {n2 : Nat} (h0 : ((n0 : Nat) = (n1 + 2))) (h1 : ((n2 : Nat) ≤ n1)) : ((((n2 : Nat) : Int) : Int) ≤ (((n0 : Nat) : Int) - (2 : Int))) := by rw [h0]; exact Int.le_trans (Int.ofNat_le.mpr h1) (Int.le_of_eq (Int.add_sub_cancel (n1 : Int) 2).symm)
theorem ar418 {n0 : Nat} : ((0 : Int) < (((n0 : Nat) : Int) + (2 : Int))) := (Int.ofNat_lt.mpr (Nat.succ_pos _))
theorem ar419 {n0 : Nat} {n1 : Nat} (h0 : ((n0 : Nat) ≤ n1)) : ((((n0 : Nat) : Int) : Int) ≤ ((n1 : Nat) : Int)) := Int.ofNat_le.mpr (h0)
theorem ar420 {n0 : Nat} (h0 : ((1 : Nat) ≤ n0)) : ((((n0 - 1) + 1) : Nat) = n0) := Nat.sub_add_cancel h0
theorem ar421 {n0 : Nat} {n1 : Nat} (h0 : (((2 : Nat) ≤ n0) ∧ ((n0 : Nat) ≤ 3))) (h1 : ((n1 : Nat) ≤ n0)) : (((-1 : Int) ≤ ((n1 : Nat) : Int)) ∧ ((((n1 : Nat) : Int) : Int) ≤ (4 : Int))) := ⟨Int.le_trans (by decide) (Int.natCast_nonneg _), Int.le_trans (Int.ofNat_le.mpr (Nat.le_trans h1 h0.2)) (by decide)⟩
theorem ar422 {i0 : Int} {n1 : Nat} (h0 : ((i0 : Int) < (((n1 : Nat) : Int) + (2 : Int)))) : (((Int.toNat i0) : Nat) < (n1 + 2)) := by simp_all
theorem ar423 {i0 : Int} {i1 : Int} (h0 : ((i0 : Int) ≤ i1)) : ((i0 : Int) < (i1 + (1 : Int))) := Int.lt_add_one_of_le (h0)
theorem ar424 {i0 : Int} {i1 : Int} (h0 : (¬ ((i0 : Int) ≤ i1))) : (((i1 + (1 : Int)) : Int) ≤ i0) := Int.not_le.mp h0
theorem ar425 {i0 : Int} {i1 : Int} (h0 : ((i0 : Int) ≥ i1)) : (((i1 - (1 : Int)) : Int) < i0) := Int.lt_of_lt_of_le (Int.sub_lt_self _ (by decide)) h0
theorem ar426 {i0 : Int} {i1 : Int} (h0 : (¬ ((i0 : Int) ≥ i1))) : ((i0 : Int) ≤ (i1 - (1 : Int))) := Int.le_sub_one_of_lt (Int.not_le.mp h0)
theorem ar427 {n0 : Nat} (h0 : ((n0 : Nat) ≤ 900)) : ((n0 : Nat) ≤ 900) := by simp_all
theorem ar428 {n0 : Nat} (h0 : ((1 : Nat) ≤ n0)) : (¬ ((n0 : Nat) = 0)) := Nat.ne_of_gt (h0)
theorem ar429 {n0 : Nat} (h0 : (¬ ((n0 : Nat) = 0))) : ((1 : Nat) ≤ n0) := Nat.pos_of_ne_zero (h0)
theorem ar430 {n0 : Nat} {n1 : Nat} (h0 : ((n0 : Nat) < (n1 + 2))) (h1 : (¬ ((n0 : Nat) = (n1 + 1)))) : ((n0 : Nat) ≤ n1) := (Nat.lt_succ_iff_lt_or_eq.mp h0).elim Nat.le_of_lt_succ (fun h => absurd h h1)
theorem ar431 {i0 : Int} {i1 : Int} (h0 : ((i0 : Int) = i1)) : ((i1 : Int) ≤ i0) := Int.le_of_eq (h0.symm)
theorem ar432 {i0 : Int} {i1 : Int} (h0 : ((i0 : Int) < i1)) : ((i0 : Int) ≤ i1) := Int.le_of_lt (h0)
theorem ar433 {i0 : Int} {i1 : Int} (h0 : ((i0 : Int) ≤ i1)) (h1 : ((i1 : Int) ≤ i0)) : ((i1 : Int) = i0) := Int.le_antisymm (h1) (h0)
theorem ar434 {i0 : Int} {p1 : Prop} (h0 : ((i0 : Int) < i0)) : p1 := absurd (h0) (Int.lt_irrefl _)
theorem ar435 {n0 : Nat} {n1 : Nat} (h0 : (((2 : Nat) ≤ n0) ∧ ((n0 : Nat) ≤ 3))) (h1 : ((1 : Nat) ≤ n1)) (h2 : ((n1 : Nat) ≤ n0)) : (((((n1 : Nat) : Int) : Int) = (1 : Int)) ∨ (((((n1 : Nat) : Int) : Int) = (2 : Int)) ∨ ((((n1 : Nat) : Int) : Int) = (3 : Int)))) := by grind
theorem ar436 {n0 : Nat} (h0 : ((0 : Nat) < n0)) : ((0 : Int) < ((n0 : Nat) : Int)) := Int.ofNat_lt.mpr (h0)
theorem ar437 {i0 : Int} {n1 : Nat} (h0 : ((0 : Int) ≤ i0)) (h1 : ((i0 : Int) < ((n1 : Nat) : Int))) : (((Int.toNat i0) : Nat) < n1) := by simp_all
theorem ar438 {i0 : Int} (h0 : ((0 : Int) ≤ i0)) : ((i0 : Int) = (((Int.toNat i0) : Nat) : Int)) := (Int.toNat_of_nonneg (h0)).symm
theorem ar439 {i0 : Int} (h0 : (((i0 : Int) = (-(1 : Int))) ∨ (((i0 : Int) = (0 : Int)) ∨ ((i0 : Int) = (1 : Int))))) : (((i0 : Int) = (-(1 : Int))) ∨ (((i0 : Int) = (0 : Int)) ∨ ((i0 : Int) = (1 : Int)))) := by simp_all
theorem ar440 {n0 : Nat} (h0 : (((n0 : Nat) = 2) ∨ ((n0 : Nat) = 3))) : (((2 : Nat) ≤ n0) ∧ ((n0 : Nat) ≤ 3)) := by (rcases h0 with h0 | h0 <;> subst h0 <;> decide)
theorem ar441 {n0 : Nat} {n1 : Nat} (h0 : (((n0 : Nat) = 2) ∨ ((n0 : Nat) = 3))) (h1 : ((n1 : Nat) ≤ (5 - n0))) : ((n1 : Nat) ≤ 3) := h0.elim (fun h => h ▸ h1 |> fun h' => by rw [h] at h1; exact h1) (fun h => by rw [h] at h1; exact Nat.le_trans h1 (by decide))
theorem ar442 : (¬ ((1 : Nat) = 0)) := Nat.succ_ne_zero _
theorem ar443 : (¬ ((2 : Nat) = 0)) := Nat.succ_ne_zero _
theorem ar444 : (¬ ((3 : Nat) = 0)) := Nat.succ_ne_zero _
theorem ar445 : (¬ ((4 : Nat) = 0)) := Nat.succ_ne_zero _
theorem ar446 {n0 : Nat} {n1 : Nat} {n2 : Nat} {n3 : Nat} (h0 : ((n0 : Nat) ≤ 5)) (h1 : ((n1 : Nat) ≤ 3)) (h2 : ((n2 : Nat) ≤ 3)) (h3 : ((n3 : Nat) ≤ 3)) : (((n0 + (n1 + (n2 + n3))) : Nat) ≤ 14) := Nat.le_trans (Nat.add_le_add h0 (Nat.add_le_add h1 (Nat.add_le_add h2 h3))) (by decide)
theorem ar447 {n0 : Nat} {n1 : Nat} {n2 : Nat} {n3 : Nat} {n4 : Nat} (h0 : ((n0 : Nat) ≤ 5)) (h1 : ((n1 : Nat) ≤ 2)) (h2 : ((n2 : Nat) ≤ 2)) (h3 : ((n3 : Nat) ≤ 2)) (h4 : ((n4 : Nat) ≤ 2)) : (((n0 + (n1 + (n2 + (n3 + n4)))) : Nat) ≤ 14) := Nat.add_le_add h0 (Nat.add_le_add h1 (Nat.add_le_add h2 (Nat.add_le_add h3 h4))) |> fun h => Nat.le_trans h (by decide)
theorem ar448 {n0 : Nat} (h0 : ((1 : Nat) ≤ n0)) : ((n0 : Nat) ≠ 0) := Nat.ne_of_gt (h0)
end Mine
end
section
open PySem PySem.W PySem.Calls PyProof.Rows
namespace Mine

inductive V where
  | int (i : Int)
  | str (s : Str)
  | tup (l : List V)
  | rng (a b c : Int)
  | val (v : Value)

noncomputable def PT (h : Heap) (a : Addr) (vs : List Value) : Prop := ∃ n, h.get? a = some { cls := .type "tuple", data := .seq vs.toArray n }
theorem PT.isTuple {h : Heap} {a : Addr} {vs : List Value} (t : PT h a vs) : h.IsTuple a vs.toArray := let ⟨n, e⟩ := t; ⟨_, e, rfl, n, rfl⟩
noncomputable def PL (h : Heap) (a : Addr) (vs : List Value) : Prop := ∃ n, h.get? a = some { cls := .type "list", data := .seq vs.toArray n }
theorem PL.isList {h : Heap} {a : Addr} {vs : List Value} (t : PL h a vs) : h.IsList a vs.toArray := let ⟨n, e⟩ := t; ⟨_, e, rfl, n, rfl⟩

mutual
inductive RepV (h : Heap) : Value → V → Prop
  | int (i : Int) (t : Tok) : RepV h (.int i t) (.int i)
  | str (x : Str) (t : Tok) : RepV h (.str x t) (.str x)
  | tup {a : Addr} {vs : List Value} {l : List V} : PT h a vs → RepL h vs l → RepV h (.ref a) (.tup l)
  | rng {r : Addr} {a b c : Int} {t u v : Tok} : IsRange h r a b c t u v → RepV h (.ref r) (.rng a b c)
  | val (v : Value) : RepV h v (.val v)
inductive RepL (h : Heap) : List Value → List V → Prop
  | nil : RepL h [] []
  | cons {v : Value} {x : V} {vs : List Value} {l : List V} : RepV h v x → RepL h vs l → RepL h (v :: vs) (x :: l)
end

theorem RepL.nil_inv {h : Heap} {vs : List Value} (r : RepL h vs []) : vs = [] := by cases r; rfl
theorem RepL.cons_inv {h : Heap} {vs : List Value} {x : V} {l : List V} (r : RepL h vs (x :: l)) : ∃ v us, vs = v :: us ∧ RepV h v x ∧ RepL h us l := by
  cases r with | cons a b => exact ⟨_, _, rfl, a, b⟩
theorem RepL.ind {h : Heap} {P : List Value → List V → Prop} (n : P [] []) (c : ∀ v x vs l, RepV h v x → RepL h vs l → P vs l → P (v :: vs) (x :: l)) {vs : List Value} {l : List V} (r : RepL h vs l) : P vs l := by
  induction l generalizing vs with
  | nil => rw [r.nil_inv]; exact n
  | cons x l ih =>
    obtain ⟨v, us, e, a, b⟩ := r.cons_inv
    rw [e]; exact c v x us l a b (ih b)
theorem RepL.one {h : Heap} {vs : List Value} {x : V} (r : RepL h vs [x]) : ∃ v, vs = [v] ∧ RepV h v x := by
  obtain ⟨v, us, e, a, b⟩ := r.cons_inv
  exact ⟨v, by rw [e, b.nil_inv], a⟩
theorem RepL.two {h : Heap} {vs : List Value} {x z : V} (r : RepL h vs [x, z]) : ∃ v u, vs = [v, u] ∧ RepV h v x ∧ RepV h u z := by
  obtain ⟨v, us, e, a, b⟩ := r.cons_inv
  obtain ⟨u, e', b⟩ := b.one
  exact ⟨v, u, by rw [e, e'], a, b⟩
theorem RepL.three {h : Heap} {vs : List Value} {x z w : V} (r : RepL h vs [x, z, w]) : ∃ v u t, vs = [v, u, t] ∧ RepV h v x ∧ RepV h u z ∧ RepV h t w := by
  obtain ⟨v, us, e, a, b⟩ := r.cons_inv
  obtain ⟨u, t, e', b, c⟩ := b.two
  exact ⟨v, u, t, by rw [e, e'], a, b, c⟩
theorem RepL.four {h : Heap} {vs : List Value} {x z w u : V} (r : RepL h vs [x, z, w, u]) : ∃ v1 v2 v3 v4, vs = [v1, v2, v3, v4] ∧ RepV h v1 x ∧ RepV h v2 z ∧ RepV h v3 w ∧ RepV h v4 u := by
  obtain ⟨v, us, e, a, b⟩ := r.cons_inv
  obtain ⟨u, t, s, e', b, c, d⟩ := b.three
  exact ⟨v, u, t, s, by rw [e, e'], a, b, c, d⟩
theorem RepV.val_inv {h : Heap} {v u : Value} (r : RepV h v (.val u)) : v = u := by cases r; rfl
theorem RepV.int_inv {h : Heap} {v : Value} {i : Int} (r : RepV h v (.int i)) : ∃ t, v = .int i t := by cases r; exact ⟨_, rfl⟩
theorem RepV.str_inv {h : Heap} {v : Value} {i : Str} (r : RepV h v (.str i)) : ∃ t, v = .str i t := by cases r; exact ⟨_, rfl⟩
theorem RepV.tup_inv {h : Heap} {v : Value} {l : List V} (r : RepV h v (.tup l)) : ∃ a vs, v = .ref a ∧ PT h a vs ∧ RepL h vs l := by
  cases r with | tup t rl => exact ⟨_, _, rfl, t, rl⟩
theorem RepV.rng_inv {h : Heap} {v : Value} {a b c : Int} (r : RepV h v (.rng a b c)) : ∃ (r : Addr) (t u w : Tok), v = .ref r ∧ IsRange h r a b c t u w := by
  cases r with | rng e => exact ⟨_, _, _, _, rfl, e⟩

noncomputable def Im (o : Obj) : Prop := (o.cls = .type "tuple" ∧ ∃ vs n, o.data = .seq vs n) ∨ (o.cls = .type "range" ∧ ∃ vs, o.data = .fields vs)
noncomputable def Imm (h h' : Heap) : Prop := ∀ a o, Im o → h.get? a = some o → h'.get? a = some o
inductive AO where
  | list (l : List V)
  | inst (C d : Addr)
  | attrs (k : Nat) (f : Str → Option V)
  | idict (k : Nat)
  | own (P : Heap → Obj → Prop) (m : ∀ h h' o, Imm h h' → P h o → P h' o) (n : ∀ h o, P h o → ¬ Im o)

noncomputable def RepO (h : Heap) (o : Obj) : AO → Prop
  | .list l => ∃ vs n, o = { cls := .type "list", data := .seq (vs : List Value).toArray n } ∧ RepL h vs l
  | .inst C d => o = instObj C d
  | .attrs k f => ∃ es ep, o.data = .dict es ep ∧ es.size ≤ k ∧ StrKeys es ∧ ∀ x, match nsFind es x, f x with
      | some v, some y => RepV h v y
      | none, none => True
      | _, _ => False
  | .idict k => o.cls = .type "dict" ∧ ∃ es ep, o.data = .dict es ep ∧ es.size ≤ k ∧ PySem.IntKeys es
  | .own P _ _ => P h o

theorem PT.imm {h h' : Heap} (k : Imm h h') {a : Addr} {vs : List Value} (t : PT h a vs) : PT h' a vs := let ⟨n, e⟩ := t; ⟨n, k _ _ (.inl ⟨rfl, _, _, rfl⟩) e⟩
noncomputable abbrev St := Addr → Option AO
noncomputable def St.put (σ : St) (a : Addr) (x : AO) : St := fun b => if b = a then some x else σ b
@[simp] theorem St.put_self (σ : St) (a : Addr) (x : AO) : σ.put a x a = some x := by simp [St.put]
theorem St.put_ne {σ : St} {a b : Addr} {x : AO} (h : b ≠ a) : σ.put a x b = σ b := by simp [St.put, h]
noncomputable def St.Le (σ σ' : St) : Prop := ∀ a x, σ a = some x → σ' a = some x
theorem St.Le.refl (σ : St) : St.Le σ σ := fun _ _ e => e
theorem St.Le.trans {σ₁ σ₂ σ₃ : St} (x : St.Le σ₁ σ₂) (y : St.Le σ₂ σ₃) : St.Le σ₁ σ₃ := fun a b e => y a b (x a b e)
theorem St.Le.put {σ : St} {a : Addr} {x : AO} (h : σ a = none) : St.Le σ (σ.put a x) := fun b y e => by
  have : b ≠ a := by rintro rfl; rw [h] at e; cases e
  rw [St.put_ne this]; exact e

structure Inv (B : Heap) (σ : St) (h : Heap) : Prop where
  base : ∀ b o, B.get? b = some o → h.get? b = some o
  obj : ∀ a x, σ a = some x → ∃ o, h.get? a = some o ∧ RepO h o x
  new : ∀ a x, σ a = some x → B.get? a = none

structure Keep (X : Addr → Prop) (σ : St) (h : Heap) (σ' : St) (h' : Heap) : Prop where
  get : ∀ b o, h.get? b = some o → σ b = none → ¬ X b → h'.get? b = some o
  off : ∀ b o, h.get? b = some o → σ b = none → σ' b = none
  all : ∀ b o, h.get? b = some o → ∃ o', h'.get? b = some o'

structure Keep0 (X : Addr → Prop) (σ : St) (h : Heap) (σ' : St) (h' : Heap) : Prop where
  get : ∀ b o, h.get? b = some o → σ b = none → ¬ X b → h'.get? b = some o
  off : ∀ b o, h.get? b = some o → σ b = none → σ' b = none
theorem Keep.k0 {X : Addr → Prop} {σ σ' : St} {h h' : Heap} (K : Keep X σ h σ' h') : Keep0 X σ h σ' h' := ⟨K.get, K.off⟩

noncomputable abbrev No : Addr → Prop := fun _ => False
theorem Keep.refl (X : Addr → Prop) (σ : St) (h : Heap) : Keep X σ h σ h := ⟨fun _ _ e _ _ => e, fun _ _ _ e => e, fun _ o e => ⟨o, e⟩⟩

theorem RepO.notIm {h : Heap} {o : Obj} {x : AO} (r : RepO h o x) : ¬ Im o := by
  cases x with
  | list l =>
    obtain ⟨vs, n, rfl, _⟩ := r
    rintro (⟨e, _⟩ | ⟨e, _⟩)
    · exact absurd e (by show ¬ (Value.type "list" = Value.type "tuple"); decide)
    · exact absurd e (by show ¬ (Value.type "list" = Value.type "range"); decide)
  | inst C d =>
    rw [show o = instObj C d from r]
    rintro (⟨e, _⟩ | ⟨e, _⟩) <;> cases e
  | attrs k f =>
    obtain ⟨es, ep, hd, _⟩ := r
    rintro (⟨_, vs, n, e⟩ | ⟨_, vs, e⟩) <;> rw [hd] at e <;> cases e
  | idict k =>
    obtain ⟨_, es, ep, hd, _⟩ := r
    rintro (⟨_, vs, n, e⟩ | ⟨_, vs, e⟩) <;> rw [hd] at e <;> cases e
  | own P m n => exact n h o r

theorem Inv.imOff {B : Heap} {σ : St} {h : Heap} (I : Inv B σ h) {a : Addr} {o : Obj} (t : h.get? a = some o) (m : Im o) : σ a = none := by
  cases e : σ a with
  | none => rfl
  | some x =>
    obtain ⟨o', ho, r⟩ := I.obj a x e
    rw [ho] at t; cases t
    exact absurd m r.notIm

mutual
theorem RepV.mono {h h' : Heap} {v : Value} {x : V} (r : RepV h v x) (k : Imm h h') : RepV h' v x := by
  cases r with
  | int i t => exact .int i t
  | str x t => exact .str x t
  | tup t l => exact .tup (t.imm k) (l.mono k)
  | rng t => exact .rng (k _ _ (.inr ⟨rfl, _, rfl⟩) t)
  | val v => exact .val v
theorem RepL.mono {h h' : Heap} {vs : List Value} {l : List V} (r : RepL h vs l) (k : Imm h h') : RepL h' vs l := by
  cases r with
  | nil => exact .nil
  | cons a b => exact .cons (a.mono k) (b.mono k)
end

noncomputable def NoTup (X : Addr → Prop) (h : Heap) : Prop := ∀ a o, Im o → h.get? a = some o → ¬ X a
theorem noTup_no (h : Heap) : NoTup No h := fun _ _ _ _ x => x

theorem Keep0.imm {B : Heap} {X : Addr → Prop} {σ σ' : St} {h h' : Heap} (K : Keep0 X σ h σ' h') (I : Inv B σ h) (nt : NoTup X h) : Imm h h' :=
  fun a o m ho => K.get a o ho (I.imOff ho m) (nt a o m ho)
theorem Keep.imm {B : Heap} {X : Addr → Prop} {σ σ' : St} {h h' : Heap} (K : Keep X σ h σ' h') (I : Inv B σ h) (nt : NoTup X h) : Imm h h' :=
  fun a o m ho => K.get a o ho (I.imOff ho m) (nt a o m ho)
theorem RepV.keep {B : Heap} {σ σ' : St} {h h' : Heap} {v : Value} {x : V} (r : RepV h v x) (I : Inv B σ h) (K : Keep No σ h σ' h') : RepV h' v x := r.mono (K.imm I (noTup_no h))
theorem RepL.keep {B : Heap} {σ σ' : St} {h h' : Heap} {vs : List Value} {l : List V} (r : RepL h vs l) (I : Inv B σ h) (K : Keep No σ h σ' h') : RepL h' vs l := r.mono (K.imm I (noTup_no h))

theorem Keep.transNew {X Y : Addr → Prop} {σ₁ σ₂ σ₃ : St} {h₁ h₂ h₃ : Heap} (a : Keep X σ₁ h₁ σ₂ h₂) (b : Keep Y σ₂ h₂ σ₃ h₃) (hY : ∀ x, Y x → X x ∨ h₁.get? x = none) : Keep X σ₁ h₁ σ₃ h₃ where
  get := fun x o e z n => b.get x o (a.get x o e z n) (a.off x o e z) fun q => by
    rcases hY x q with q | q
    · exact n q
    · rw [q] at e; cases e
  off := fun x o e z => by
    obtain ⟨o', e'⟩ := a.all x o e
    exact b.off x o' e' (a.off x o e z)
  all := fun x o e => by
    obtain ⟨o', e'⟩ := a.all x o e
    exact b.all x o' e'
theorem Keep.trans {X : Addr → Prop} {σ₁ σ₂ σ₃ : St} {h₁ h₂ h₃ : Heap} (a : Keep X σ₁ h₁ σ₂ h₂) (b : Keep X σ₂ h₂ σ₃ h₃) : Keep X σ₁ h₁ σ₃ h₃ := a.transNew b fun _ => .inl
theorem Keep.trans0 {σ₁ σ₂ σ₃ : St} {h₁ h₂ h₃ : Heap} (a : Keep No σ₁ h₁ σ₂ h₂) (b : Keep No σ₂ h₂ σ₃ h₃) : Keep No σ₁ h₁ σ₃ h₃ := a.trans b
theorem Keep.weaken {X Y : Addr → Prop} {σ σ' : St} {h h' : Heap} (K : Keep X σ h σ' h') (e : ∀ x, X x → Y x) : Keep Y σ h σ' h' where
  get := fun b o e' z n => K.get b o e' z fun q => n (e _ q)
  off := K.off
  all := K.all
theorem Keep.w {X : Addr → Prop} {σ σ' : St} {h h' : Heap} (K : Keep No σ h σ' h') : Keep X σ h σ' h' := K.weaken fun _ q => q.elim

theorem RepO.mono {h h' : Heap} {o : Obj} {x : AO} (r : RepO h o x) (k : Imm h h') : RepO h' o x := by
  cases x with
  | list l => obtain ⟨vs, n, b, c⟩ := r; exact ⟨vs, n, b, c.mono k⟩
  | inst C d => exact r
  | attrs n f =>
    obtain ⟨es, ep, b, z, c, d⟩ := r
    refine ⟨es, ep, b, z, c, fun x => ?_⟩
    have := d x
    revert this
    cases nsFind es x <;> cases f x <;> intro q <;> first | exact q | exact q.mono k
  | idict k => exact r
  | own P m n => exact m _ _ _ k r

theorem grow {B : Heap} {σ : St} {h h' : Heap} (I : Inv B σ h) (k : ∀ b o, h.get? b = some o → h'.get? b = some o) : Inv B σ h' ∧ Keep No σ h σ h' := by
  have kt : Imm h h' := fun a o _ ho => k _ _ ho
  refine ⟨⟨fun b o e => k _ _ (I.base b o e), fun a x e => ?_, I.new⟩, ⟨fun b o e _ _ => k b o e, fun _ _ _ e => e, fun b o e => ⟨o, k b o e⟩⟩⟩
  obtain ⟨o, ho, r⟩ := I.obj a x e
  exact ⟨o, k _ _ ho, r.mono kt⟩
theorem growBut {B : Heap} {σ : St} {X : Addr → Prop} {h h' : Heap} (I : Inv B σ h) (nt : NoTup X h) (nb : ∀ x, X x → B.get? x = none) (nσ : ∀ x, X x → σ x = none) (k : ∀ b o, ¬ X b → h.get? b = some o → h'.get? b = some o) (ko : ∀ b o, X b → h.get? b = some o → ∃ o', h'.get? b = some o') :
    Inv B σ h' ∧ Keep X σ h σ h' := by
  have kt : Imm h h' := fun a o m ho => k _ _ (nt a o m ho) ho
  refine ⟨⟨fun b o e => k _ _ (fun x => ?_) (I.base b o e), fun a x e => ?_, I.new⟩, ⟨fun b o e _ n => k b o n e, fun _ _ _ e => e, fun b o e => ?_⟩⟩
  · rw [nb b x] at e; cases e
  · obtain ⟨o, ho, r⟩ := I.obj a x e
    exact ⟨o, k _ _ (fun q => by rw [nσ a q] at e; cases e) ho, r.mono kt⟩
  · by_cases q : X b
    · exact ko b o q e
    · exact ⟨o, k b o q e⟩
theorem growBut0 {B : Heap} {σ : St} {X : Addr → Prop} {h h' : Heap} (I : Inv B σ h) (nt : NoTup X h) (nb : ∀ x, X x → B.get? x = none) (nσ : ∀ x, X x → σ x = none) (k : ∀ b o, ¬ X b → h.get? b = some o → h'.get? b = some o) :
    Inv B σ h' ∧ Keep0 X σ h σ h' := by
  have kt : Imm h h' := fun a o m ho => k _ _ (nt a o m ho) ho
  refine ⟨⟨fun b o e => k _ _ (fun x => ?_) (I.base b o e), fun a x e => ?_, I.new⟩, ⟨fun b o e _ n => k b o n e, fun _ _ _ e => e⟩⟩
  · rw [nb b x] at e; cases e
  · obtain ⟨o, ho, r⟩ := I.obj a x e
    exact ⟨o, k _ _ (fun q => by rw [nσ a q] at e; cases e) ho, r.mono kt⟩
theorem Keep.transOff {X : Addr → Prop} {J : Addr} {σ₁ σ₂ : St} {h₁ h₂ h₃ : Heap} (a : Keep X σ₁ h₁ σ₂ h₂) (k : ∀ b o, b ≠ J → h₂.get? b = some o → h₃.get? b = some o) (hJ : h₁.get? J = none) : Keep X σ₁ h₁ σ₂ h₃ where
  get := fun x o e z n => k x o (by rintro rfl; rw [hJ] at e; cases e) (a.get x o e z n)
  off := a.off
  all := fun x o e => by
    obtain ⟨o', e'⟩ := a.all x o e
    exact ⟨o', k x o' (by rintro rfl; rw [hJ] at e; cases e) e'⟩
theorem push {B : Heap} {σ : St} {h : Heap} (I : Inv B σ h) {o : Obj} {x : AO} (hf : o.isFreed = false) (r : RepO h o x) :
    Inv B (σ.put h.objs.size x) (h.push o) ∧ Keep No σ h (σ.put h.objs.size x) (h.push o) ∧ σ h.objs.size = none := by
  have k : ∀ b o', h.get? b = some o' → (h.push o).get? b = some o' := fun b o' e => Heap.get?_push_of_some o e
  have kt : Imm h (h.push o) := fun a o _ ho => k _ _ ho
  have ne : ∀ b o', h.get? b = some o' → b ≠ h.objs.size := fun b o' e q => Nat.lt_irrefl _ (q ▸ Heap.lt_size e)
  have fresh : σ h.objs.size = none := by
    cases e : σ h.objs.size with
    | none => rfl
    | some y => obtain ⟨o', ho, _⟩ := I.obj _ _ e; exact absurd rfl (ne _ _ ho)
  refine ⟨⟨fun b o' e => k _ _ (I.base b o' e), fun a y e => ?_, fun a y e => ?_⟩, ⟨fun b o' e _ _ => k b o' e, fun b o' e z => ?_, fun b o' e => ⟨o', k b o' e⟩⟩, fresh⟩
  · by_cases q : a = h.objs.size
    · subst q; rw [St.put_self] at e; cases e
      exact ⟨o, Heap.get?_push_size _ hf, r.mono kt⟩
    · rw [St.put_ne q] at e
      obtain ⟨o', ho, r'⟩ := I.obj a y e
      exact ⟨o', k _ _ ho, r'.mono kt⟩
  · by_cases q : a = h.objs.size
    · subst q
      cases e' : B.get? h.objs.size with
      | none => rfl
      | some o' => exact absurd rfl (ne _ _ (I.base _ _ e'))
    · rw [St.put_ne q] at e; exact I.new a y e
  · rw [St.put_ne (ne _ _ e)]; exact z
theorem change {B : Heap} {σ : St} {h h' : Heap} (I : Inv B σ h) {a : Addr} {x x' : AO} (ha : σ a = some x) (hs : ∀ b o, b ≠ a → h.get? b = some o → h'.get? b = some o) {o' : Obj} (ho : h'.get? a = some o')
    (r : Imm h h' → RepO h' o' x') : Inv B (σ.put a x') h' ∧ Keep No σ h (σ.put a x') h' := by
  have kt : Imm h h' := fun b o m ho => by
    have z := I.imOff ho m
    exact hs b _ (by rintro rfl; rw [ha] at z; cases z) ho
  refine ⟨⟨fun b o e => hs b o ?_ (I.base b o e), fun b y e => ?_, fun b y e => ?_⟩, ⟨fun b o e z _ => hs b o ?_ e, fun b o e z => ?_, fun b o e => ?_⟩⟩
  · rintro rfl; rw [I.new _ _ ha] at e; cases e
  · by_cases q : b = a
    · subst q; rw [St.put_self] at e; cases e; exact ⟨o', ho, r kt⟩
    · rw [St.put_ne q] at e
      obtain ⟨o, ho, r'⟩ := I.obj b y e
      exact ⟨o, hs b o q ho, r'.mono kt⟩
  · by_cases q : b = a
    · subst q; exact I.new _ _ ha
    · rw [St.put_ne q] at e; exact I.new b y e
  · rintro rfl; rw [ha] at z; cases z
  · have : b ≠ a := by rintro rfl; rw [ha] at z; cases z
    rw [St.put_ne this]; exact z
  · by_cases q : b = a
    · rw [q]; exact ⟨_, ho⟩
    · exact ⟨o, hs b o q e⟩

structure Sy where
  prog : Program
  w : World
  B : Heap

structure Room (A : Around) (n : Nat) : Prop where
  hd : A.handled = none
  dp : A.depth + 4 * n + 4 < recursionLimit
  un : A.units + 100 * (n + 1) < cLine

noncomputable abbrev sw (s : Shared) (h : Heap) (tk : Nat) : Shared := { s with heap := h, toks := tk }
inductive Post (y : Sy) (X : Addr → Prop) {α : Type} (s : Shared) (σ : St) (R : α → Heap → St → Prop) (r : α) (s' : Shared) : Prop
  | mk (h' : Heap) (tk : Nat) (σ' : St) (e : s' = (sw s h' tk)) (i : Inv y.B σ' h') (k : Keep X σ s.heap σ' h') (q : R r h' σ')
noncomputable def Run (y : Sy) (A : Around) (X : Addr → Prop) {α : Type} (t : Sem α) (s : Shared) (σ : St) (R : α → Heap → St → Prop) : Prop :=
  ∀ E, wpAny (model y.prog y.w) A t (Post y X s σ R) E s

section
variable {y : Sy} {A : Around} {X : Addr → Prop} {α β : Type} {s : Shared} {σ : St}
theorem Run.fin {t : Sem α} {R : α → Heap → St → Prop} {σ₁ : St} {h₁ : Heap} {tk : Nat} {E : Value → Shared → Prop} (r : Run y A X t (sw s h₁ tk) σ₁ R) (K : Keep X σ s.heap σ₁ h₁) : wpAny (model y.prog y.w) A t (Post y X s σ R) E (sw s h₁ tk) :=
  wpAny_mono (r E) (fun _ _ ⟨h', tk, σ', e, i, k, q⟩ => ⟨h', tk, σ', e, i, K.trans k, q⟩) fun _ _ e => e
theorem Run.mono {t : Sem α} {R R' : α → Heap → St → Prop} (r : Run y A X t s σ R) (h : ∀ a h' σ', Inv y.B σ' h' → Keep X σ s.heap σ' h' → R a h' σ' → R' a h' σ') : Run y A X t s σ R' :=
  fun E => wpAny_mono (r E) (fun a s' ⟨h', tk, σ', e, i, k, q⟩ => ⟨h', tk, σ', e, i, k, h a h' σ' i k q⟩) fun _ _ e => e
theorem Run.pure {a : α} {R : α → Heap → St → Prop} (I : Inv y.B σ s.heap) (h : R a s.heap σ) : Run y A X (pure a) s σ R := fun _ => wpAny_pure ⟨_, _, σ, rfl, I, .refl .., h⟩
theorem Run.bind {t : Sem α} {f : α → Sem β} {R : β → Heap → St → Prop} (r : Run y A No t s σ fun a h₁ σ₁ => ∀ tk, Run y A No (f a) (sw s h₁ tk) σ₁ R) : Run y A No (t >>= f) s σ R := by
  intro E
  refine wpAny_bind (wpAny_mono (r E) (fun a s₁ q => ?_) fun _ _ e => e)
  obtain ⟨h₁, tk, σ₁, rfl, i, k, q⟩ := q
  refine wpAny_mono (q tk E) (fun b s₂ z => ?_) fun _ _ e => e
  obtain ⟨h₂, tk₂, σ₂, rfl, i₂, k₂, z⟩ := z
  exact ⟨h₂, tk₂, σ₂, rfl, i₂, k.trans0 k₂, z⟩
theorem Run.standAt {p : Pos} {f : Unit → Sem β} {R : β → Heap → St → Prop} (r : Run y A X (f ()) s σ R) : Run y A X (standAt p >>= f) s σ R := fun E => wpAny_bind (wpAny_standAt (r E))
theorem Run.holding {vs : List Value} {t : Sem α} {R : α → Heap → St → Prop} (r : Run y A X t s σ R) : Run y A X (holding vs t) s σ R := fun E => wpAny_holding (r E)
theorem Run.of {t : Sem α} {R : α → Heap → St → Prop} (r : ∀ E (Q : α → Shared → Prop), (∀ a h' tk σ', Inv y.B σ' h' → Keep X σ s.heap σ' h' → R a h' σ' → Q a (sw s h' tk)) → wpAny (model y.prog y.w) A t Q E s) : Run y A X t s σ R :=
  fun E => r E _ fun _ h' tk σ' i k q => ⟨h', tk, σ', rfl, i, k, q⟩
theorem Run.use {t : Sem α} {R : α → Heap → St → Prop} {Q : α → Shared → Prop} {E : Value → Shared → Prop} (r : Run y A X t s σ R) (h : ∀ a h' tk σ', Inv y.B σ' h' → Keep X σ s.heap σ' h' → R a h' σ' → Q a (sw s h' tk)) : wpAny (model y.prog y.w) A t Q E s :=
  wpAny_mono (r E) (fun a s' ⟨h', tk, σ', e, i, k, q⟩ => by rw [e]; exact h a h' tk σ' i k q) fun _ _ e => e
end
end Mine
end
section
open PySem PySem.W PySem.Calls PyProof.Rows
namespace Mine

structure Gl (y : Sy) (mg mb : Str → Option Value) : Prop where
  g : y.B.Ns mainGlobals mg
  b : y.B.Ns builtinsNs mb
  lim : y.B.NoLimit

structure FrOK (B : Heap) (env : Env) (ρ : Str → Option V) (σ : St) (h : Heap) : Prop where
  kind : env.scope.kind = .function
  glob : env.globals = mainGlobals
  blt : env.builtins = builtinsNs
  locB : B.get? env.locals = none
  locS : σ env.locals = none
  ns : ∃ m, h.Ns env.locals m ∧ ∀ x u, env.kindOf x = some .local → ρ x = some u → ∃ v, m x = some v ∧ RepV h v u
  cell : ∀ x c, env.cells.lookup x = some c → B.get? c = none ∧ σ c = none ∧ ∃ v, h.IsCell c v ∧ ∀ u, ρ x = some u → ∃ w, v = some w ∧ RepV h w u
  has : ∀ x, (env.kindOf x = some .cell ∨ env.kindOf x = some .free) → ∃ c, env.cells.lookup x = some c
  apart : ∀ x x' c, env.cells.lookup x = some c → env.cells.lookup x' = some c → x = x'
  kinds : ∀ x c, env.cells.lookup x = some c → env.kindOf x ≠ some .local

theorem FrOK.keepX {B : Heap} {env : Env} {ρ : Str → Option V} {σ σ' : St} {h h' : Heap} {X : Addr → Prop} (F : FrOK B env ρ σ h) (I : Inv B σ h) (K : Keep0 X σ h σ' h') (nt : NoTup X h) (hl : ¬ X env.locals) (hc : ∀ x c, env.cells.lookup x = some c → ¬ X c) : FrOK B env ρ σ' h' where
  kind := F.kind
  glob := F.glob
  blt := F.blt
  locB := F.locB
  locS := by obtain ⟨m, ⟨o, _, _, ho, _⟩, _⟩ := F.ns; exact K.off _ o ho F.locS
  ns := by
    obtain ⟨m, hm, q⟩ := F.ns
    refine ⟨m, hm.at' fun o e => K.get _ o e F.locS hl, fun x u k e => ?_⟩
    obtain ⟨v, a, b⟩ := q x u k e
    exact ⟨v, a, b.mono (K.imm I nt)⟩
  cell := fun x c e => by
    obtain ⟨a, b, v, ⟨o, ho, hd⟩, q⟩ := F.cell x c e
    refine ⟨a, K.off _ o ho b, v, ⟨o, K.get _ o ho b (hc x c e), hd⟩, fun u e => ?_⟩
    obtain ⟨w, r, z⟩ := q u e
    exact ⟨w, r, z.mono (K.imm I nt)⟩
  has := F.has
  apart := F.apart
  kinds := F.kinds
theorem FrOK.keep {B : Heap} {env : Env} {ρ : Str → Option V} {σ σ' : St} {h h' : Heap} (F : FrOK B env ρ σ h) (I : Inv B σ h) (K : Keep No σ h σ' h') : FrOK B env ρ σ' h' :=
  F.keepX I K.k0 (noTup_no h) (fun x => x) fun _ _ _ x => x

inductive QV (Q : V → St → Prop) (v : Value) (h' : Heap) (σ' : St) : Prop
  | mk (x : V) (r : RepV h' v x) (q : Q x σ')
inductive QL (Q : List V → St → Prop) (v : List Value) (h' : Heap) (σ' : St) : Prop
  | mk (x : List V) (r : RepL h' v x) (q : Q x σ')
noncomputable abbrev QB (B : Bool → St → Prop) (b : Bool) (_ : Heap) (σ' : St) : Prop := B b σ'
section
variable (y : Sy) (n : Nat) (env : Env) (ρ : Str → Option V) (σ : St)
noncomputable def EV (e : Expr) (Q : V → St → Prop) : Prop :=
  ∀ A, Room A n → ∀ s, Inv y.B σ s.heap → FrOK y.B env ρ σ s.heap → Run y A No (eval e env) s σ (QV Q)
noncomputable def BV (e : Expr) (Q : Bool → St → Prop) : Prop :=
  ∀ A, Room A n → ∀ s, Inv y.B σ s.heap → FrOK y.B env ρ σ s.heap → Run y A No (isTrue e env (eval e env)) s σ (QB Q)
noncomputable def EVs : List Expr → (List V → St → Prop) → St → Prop
  | [], Q, σ => Q [] σ
  | e :: es, Q, σ => EV y n env ρ σ e fun x σ₁ => EVs es (fun xs σ₂ => Q (x :: xs) σ₂) σ₁
noncomputable def O1 (t : Value → Sem Value) (a : V) (Q : V → St → Prop) : Prop :=
  ∀ A, Room A n → ∀ s v, Inv y.B σ s.heap → RepV s.heap v a → Run y A No (t v) s σ (QV Q)
noncomputable def O2 (t : Value → Value → Sem Value) (a b : V) (Q : V → St → Prop) : Prop :=
  ∀ A, Room A n → ∀ s v u, Inv y.B σ s.heap → RepV s.heap v a → RepV s.heap u b → Run y A No (t v u) s σ (QV Q)
end

noncomputable def kOp2 (y : Sy) (n : Nat) (t : Value → Value → Sem Value) (a : V) (Q : V → St → Prop) (b : V) (σ₂ : St) : Prop := O2 y n σ₂ t a b Q
noncomputable def kOp (y : Sy) (n : Nat) (env : Env) (ρ : Str → Option V) (t : Value → Value → Sem Value) (r : Expr) (Q : V → St → Prop) (a : V) (σ₁ : St) : Prop := EV y n env ρ σ₁ r (kOp2 y n t a Q)
inductive KB (B : Bool → St → Prop) (x : V) (σ : St) : Prop
  | mk (b : Bool) (e : x = .val (.bool b)) (h : B b σ)
noncomputable def kNot (B : Bool → St → Prop) (b : Bool) (σ : St) : Prop := B (!b) σ
inductive KAnd (y : Sy) (n : Nat) (env : Env) (ρ : Str → Option V) (e₂ : Expr) (Q' Q : V → St → Prop) (x : V) (σ₁ : St) : Prop
  | mk (b : Bool) (e : x = .val (.bool b)) (t : b = true → EV y n env ρ σ₁ e₂ Q') (f : b = false → Q (.val (.bool false)) σ₁)
theorem KAnd.of {y : Sy} {n : Nat} {env : Env} {ρ : Str → Option V} {e₂ : Expr} {Q' Q : V → St → Prop} {x : V} {σ₁ : St} {b : Bool} (e : x = .val (.bool b)) (h : (b = true → EV y n env ρ σ₁ e₂ Q') ∧ (b = false → Q (.val (.bool false)) σ₁)) : KAnd y n env ρ e₂ Q' Q x σ₁ := ⟨b, e, h.1, h.2⟩
structure KTup (Q : V → St → Prop) (xs : List V) (σ₁ : St) : Prop where
  hz : xs.length ≤ 1000
  h : Q (.tup xs) σ₁
structure KList (Q : V → St → Prop) (xs : List V) (σ₁ : St) : Prop where
  hz : xs.length ≤ 1000
  h : ∀ a, σ₁ a = none → Q (.val (.ref a)) (σ₁.put a (.list xs))
section
variable {y : Sy} {n : Nat} {env : Env} {ρ : Str → Option V} {σ : St} {Q : V → St → Prop} {B : Bool → St → Prop}

theorem EV.mono {e : Expr} {Q' : V → St → Prop} (h : EV y n env ρ σ e Q) (q : ∀ x σ', Q x σ' → Q' x σ') : EV y n env ρ σ e Q' :=
  fun A hA s I F => (h A hA s I F).mono fun _ _ _ _ _ ⟨x, r, z⟩ => ⟨x, r, q _ _ z⟩
theorem BV.mono {e : Expr} {B' : Bool → St → Prop} (h : BV y n env ρ σ e B) (q : ∀ x σ', B x σ' → B' x σ') : BV y n env ρ σ e B' :=
  fun A hA s I F => (h A hA s I F).mono fun _ _ _ _ _ z => q _ _ z
theorem O2.mono {t : Value → Value → Sem Value} {a b : V} {Q' : V → St → Prop} (h : O2 y n σ t a b Q) (q : ∀ x σ', Q x σ' → Q' x σ') : O2 y n σ t a b Q' :=
  fun A hA s v u I r1 r2 => (h A hA s v u I r1 r2).mono fun _ _ _ _ _ ⟨x, r, z⟩ => ⟨x, r, q _ _ z⟩

theorem E_int {i : Int} {k : Nat} {pos : Pos} (h : Q (.int i) σ) : EV y n env ρ σ (.Constant (.int i) k pos) Q :=
  fun _ _ _ I _ _ => wpAny_Constant_int ⟨_, _, σ, rfl, I, .refl .., .int i, .int .., h⟩
theorem E_str {x : Str} {k : Nat} {pos : Pos} (h : Q (.str x) σ) : EV y n env ρ σ (.Constant (.str x) k pos) Q :=
  fun _ _ _ I _ _ => wpAny_Constant_str ⟨_, _, σ, rfl, I, .refl .., .str x, .str .., h⟩
theorem E_none {k : Nat} {pos : Pos} (h : Q (.val .none) σ) : EV y n env ρ σ (.Constant .none k pos) Q :=
  fun _ _ _ I _ _ => wpAny_Constant_none ⟨_, _, σ, rfl, I, .refl .., _, .val _, h⟩
theorem E_bool {b : Bool} {k : Nat} {pos : Pos} (h : Q (.val (.bool b)) σ) : EV y n env ρ σ (.Constant (.bool b) k pos) Q :=
  fun _ _ _ I _ _ => wpAny_Constant_bool ⟨_, _, σ, rfl, I, .refl .., _, .val _, h⟩

theorem E_local {x : Str} {pos : Pos} {u : V} (hk : env.kindOf x = some .local) (hx : ρ x = some u) (h : Q u σ) (hd : (x == ("__debug__" : Str)) = false := by decide) : EV y n env ρ σ (.Name x pos) Q :=
  fun A hA s I F E => by
    obtain ⟨m, hm, q⟩ := F.ns
    obtain ⟨v, a, b⟩ := q x u hk hx
    exact wpAny_Name (wpAny_loadName_local F.kind hk hm a ⟨_, _, σ, rfl, I, .refl .., u, b, h⟩) hd
theorem E_cell {x : Str} {pos : Pos} {u : V} (hk : env.kindOf x = some .cell) (hx : ρ x = some u) (h : Q u σ) (hd : (x == ("__debug__" : Str)) = false := by decide) : EV y n env ρ σ (.Name x pos) Q :=
  fun A hA s I F E => by
    obtain ⟨c, hc⟩ := F.has x (.inl hk)
    obtain ⟨_, _, v, hv, q⟩ := F.cell x c hc
    obtain ⟨w, rfl, r⟩ := q u hx
    exact wpAny_Name (wpAny_loadName_cell F.kind hk hc hv ⟨_, _, σ, rfl, I, .refl .., u, r, h⟩) hd
theorem E_free {x : Str} {pos : Pos} {u : V} (hk : env.kindOf x = some .free) (hx : ρ x = some u) (h : Q u σ) (hd : (x == ("__debug__" : Str)) = false := by decide) (hc' : (x == ("__classdict__" : Str)) = false := by decide) : EV y n env ρ σ (.Name x pos) Q :=
  fun A hA s I F E => by
    obtain ⟨c, hc⟩ := F.has x (.inr hk)
    obtain ⟨_, _, v, hv, q⟩ := F.cell x c hc
    obtain ⟨w, rfl, r⟩ := q u hx
    exact wpAny_Name (wpAny_loadName_free F.kind hk hc hv ⟨_, _, σ, rfl, I, .refl .., u, r, h⟩ hc') hd
noncomputable def GlobIs (y : Sy) (x : Str) (u : V) : Prop := ∃ mg mb v, Gl y mg mb ∧ (mg x = some v ∨ (mg x = none ∧ mb x = some v)) ∧ RepV y.B v u
theorem RepV.base {B h : Heap} {v : Value} {x : V} (r : RepV B v x) (k : ∀ b o, B.get? b = some o → h.get? b = some o) : RepV h v x := r.mono fun _ _ _ ho => k _ _ ho
theorem E_glob {x : Str} {pos : Pos} {u : V} (hk : env.kindOf x = some .globalImplicit) (hx : GlobIs y x u) (h : Q u σ) (hd : (x == ("__debug__" : Str)) = false := by decide) : EV y n env ρ σ (.Name x pos) Q :=
  fun A hA s I F E => by
    obtain ⟨mg, mb, v, G, e, r⟩ := hx
    refine Name_function_global F.kind hk ?_ hd
    have fin : Post y No s σ (QV Q) v s := ⟨_, _, σ, rfl, I, .refl .., u, r.base I.base, h⟩
    rcases e with e | ⟨e, e'⟩
    · exact loadGlobal_global (by rw [F.glob]; exact G.g.keeps I.base) e fin
    · exact loadGlobal_builtin (by rw [F.glob]; exact G.g.keeps I.base) e (by rw [F.blt]; exact G.b.keeps I.base) e' fin

theorem E_binop {l r : Expr} {op : Operator} {pos : Pos} (h : EV y n env ρ σ l (kOp y n env ρ (binaryOp op) r Q)) : EV y n env ρ σ (.BinOp l op r pos) Q :=
  fun A hA s I F E => by
    refine wpAny_BinOp ((h A hA s I F).use ?_)
    rintro a h₁ tk σ₁ I₁ K₁ ⟨xa, ra, q⟩
    refine (q A hA _ I₁ (F.keep I K₁)).use ?_
    rintro b h₂ tk₂ σ₂ I₂ K₂ ⟨xb, rb, q⟩
    exact (q A hA _ a b I₂ (ra.keep I₁ K₂) rb).fin (K₁.trans0 K₂)
theorem E_compare {l r : Expr} {op : CmpOp} {pos : Pos} (h : EV y n env ρ σ l (kOp y n env ρ (compareOp op) r Q)) (hm : behindInMarks op r = false := by with_unfolding_all rfl) : EV y n env ρ σ (.Compare l [op] [r] pos) Q :=
  fun A hA s I F E => by
    refine wpAny_Compare1 ((h A hA s I F).use ?_) hm
    rintro a h₁ tk σ₁ I₁ K₁ ⟨xa, ra, q⟩
    refine (q A hA _ I₁ (F.keep I K₁)).use ?_
    rintro b h₂ tk₂ σ₂ I₂ K₂ ⟨xb, rb, q⟩
    exact (q A hA _ a b I₂ (ra.keep I₁ K₂) rb).fin (K₁.trans0 K₂)
theorem B_compare {l r : Expr} {op : CmpOp} {pos : Pos} (h : EV y n env ρ σ l (kOp y n env ρ (compareOp op) r (KB B))) (hm : behindInMarks op r = false := by with_unfolding_all rfl) :
    BV y n env ρ σ (.Compare l [op] [r] pos) B :=
  fun A hA s I F E => by
    refine wpAny_isTrue_Compare1 ((h A hA s I F).use ?_) hm
    rintro a h₁ tk σ₁ I₁ K₁ ⟨xa, ra, q⟩
    refine (q A hA _ I₁ (F.keep I K₁)).use ?_
    rintro b h₂ tk₂ σ₂ I₂ K₂ ⟨xb, rb, q⟩
    refine (q A hA _ a b I₂ (ra.keep I₁ K₂) rb).use ?_
    rintro v h₃ tk₃ σ₃ I₃ K₃ ⟨x, r, b', rfl, q⟩
    cases r
    exact wpAny_truthy_bool ⟨h₃, tk₃, σ₃, rfl, I₃, (K₁.trans0 K₂).trans0 K₃, q⟩
theorem B_val {e : Expr} (h : EV y n env ρ σ e (KB B)) (he : isTrue e env (eval e env) = (do let v ← eval e env; standAt e.pos; holding [v] (truthy v)) := by rfl) : BV y n env ρ σ e B :=
  fun A hA s I F E => by
    refine wpAny_isTrue_value ((h A hA s I F).use ?_) he
    rintro v h₁ tk σ₁ I₁ K₁ ⟨x, r, b', rfl, q⟩
    cases r
    exact wpAny_truthy_bool ⟨h₁, tk, σ₁, rfl, I₁, K₁, q⟩
theorem B_not {e : Expr} {pos : Pos} (h : BV y n env ρ σ e (kNot B)) : BV y n env ρ σ (.UnaryOp .Not e pos) B :=
  fun A hA s I F E => wpAny_isTrue_Not ((h A hA s I F).use fun _ h' tk σ' I' K' q => ⟨h', tk, σ', rfl, I', K', q⟩)
noncomputable def BAll (y : Sy) (n : Nat) (env : Env) (ρ : Str → Option V) (op : BoolOp) : List Expr → (Bool → St → Prop) → St → Prop
  | [], B, σ => B (op == .And) σ
  | e :: es, B, σ => BV y n env ρ σ e fun b σ₁ => match op, b with
    | .And, false => B false σ₁
    | .Or, true => B true σ₁
    | _, _ => BAll y n env ρ op es B σ₁
theorem allTrue_of {op : BoolOp} : ∀ (es : List Expr) {σ : St}, BAll y n env ρ op es B σ → ∀ A, Room A n → ∀ s, Inv y.B σ s.heap → FrOK y.B env ρ σ s.heap → Run y A No (allTrue op es env) s σ (QB B)
  | [], σ, h, A, hA, s, I, F => fun E => by cases op <;> exact wpAny_pure ⟨_, _, σ, rfl, I, .refl .., h⟩
  | e :: es, σ, h, A, hA, s, I, F => fun E => by
    cases op with
    | And =>
      refine wpAny_allTrue_And_cons ((h A hA s I F).use ?_)
      rintro b h₁ tk σ₁ I₁ K₁ q
      cases b with
      | false => exact ⟨h₁, tk, σ₁, rfl, I₁, K₁, q⟩
      | true => exact (allTrue_of es q A hA _ I₁ (F.keep I K₁)).fin K₁
    | Or =>
      refine wpAny_allTrue_Or_cons ((h A hA s I F).use ?_)
      rintro b h₁ tk σ₁ I₁ K₁ q
      cases b with
      | true => exact ⟨h₁, tk, σ₁, rfl, I₁, K₁, q⟩
      | false => exact (allTrue_of es q A hA _ I₁ (F.keep I K₁)).fin K₁
theorem B_boolop {op : BoolOp} {es : List Expr} {pos : Pos} (h : BAll y n env ρ op es B σ) : BV y n env ρ σ (.BoolOp op es pos) B :=
  fun A hA s I F E => wpAny_isTrue_BoolOp (allTrue_of es h A hA s I F E)
theorem E_and2 {e₁ e₂ : Expr} {pos : Pos} (h : EV y n env ρ σ e₁ (KAnd y n env ρ e₂ Q Q)) : EV y n env ρ σ (.BoolOp .And [e₁, e₂] pos) Q :=
  fun A hA s I F E => by
    refine wpAny_And2 ((h A hA s I F).use ?_)
    rintro a h₁ tk σ₁ I₁ K₁ ⟨xa, ra, b, rfl, q1, q2⟩
    cases ra
    refine wpAny_truthy_bool ?_
    cases b with
    | false => exact ⟨h₁, tk, σ₁, rfl, I₁, K₁, _, .val _, q2 rfl⟩
    | true => exact (q1 rfl A hA _ I₁ (F.keep I K₁)).fin K₁
theorem boolOp_and3 {pos : Pos} {x : Sem Value} {r : List (Sem Value)} (hr : r ≠ []) {M : Model} {A : Around} {Q : Value → Shared → Prop} {E : Value → Shared → Prop} {s : Shared}
    (h : wpAny M A x (fun v s₁ => ∃ b, v = .bool b ∧ ((b = true → wpAny M A (boolOp pos .And r) Q E s₁) ∧ (b = false → Q (.bool false) s₁))) E s) : wpAny M A (boolOp pos .And (x :: r)) Q E s := by
  obtain ⟨z, r', rfl⟩ := List.exists_cons_of_ne_nil hr
  show wpAny M A (do
    let v ← x
    standAt pos
    let t ← holding [v] (truthy v)
    match BoolOp.And, t with
    | .And, false | .Or, true => pure v
    | _, _ => boolOp pos .And (z :: r')) Q E s
  refine wpAny_bind (wpAny_mono h (fun v s₁ h₁ => wpAny_bind (wpAny_standAt (wpAny_bind (wpAny_holding ?_)))) fun _ _ x => x)
  obtain ⟨b, rfl, q1, q2⟩ := h₁
  refine wpAny_truthy_bool ?_
  cases b with
  | false => exact wpAny_pure (q2 rfl)
  | true => exact q1 rfl
theorem E_and3 {e₁ e₂ e₃ : Expr} {pos : Pos} (h : EV y n env ρ σ e₁ (KAnd y n env ρ e₂ (KAnd y n env ρ e₃ Q Q) Q)) :
    EV y n env ρ σ (.BoolOp .And [e₁, e₂, e₃] pos) Q :=
  fun A hA s I F E => by
    show wpAny _ A (boolOp pos .And [eval e₁ env, eval e₂ env, eval e₃ env]) _ _ _
    refine boolOp_and3 (by simp) ((h A hA s I F).use ?_)
    rintro a h₁ tk σ₁ I₁ K₁ ⟨xa, ra, b, rfl, q1, q2⟩
    cases ra
    refine ⟨b, rfl, fun hb => ?_, fun hb => ⟨h₁, tk, σ₁, rfl, I₁, K₁, _, .val _, q2 hb⟩⟩
    refine boolOp_and3 (by simp) ((q1 hb A hA _ I₁ (F.keep I K₁)).use ?_)
    rintro a₂ h₂ tk₂ σ₂ I₂ K₂ ⟨xa, ra, b₂, rfl, q1, q2⟩
    cases ra
    refine ⟨b₂, rfl, fun hb => ?_, fun hb => ⟨h₂, tk₂, σ₂, rfl, I₂, K₁.trans0 K₂, _, .val _, q2 hb⟩⟩
    exact (q1 hb A hA _ I₂ ((F.keep I K₁).keep I₁ K₂)).fin (K₁.trans0 K₂)
theorem E_ifexp {t a b : Expr} {pos : Pos} (h : BV y n env ρ σ t fun c σ₁ => (c = true → EV y n env ρ σ₁ a Q) ∧ (c = false → EV y n env ρ σ₁ b Q)) : EV y n env ρ σ (.IfExp t a b pos) Q :=
  fun A hA s I F E => by
    refine wpAny_IfExp ((h A hA s I F).use ?_)
    rintro c h₁ tk σ₁ I₁ K₁ ⟨q1, q2⟩
    cases c with
    | true => exact (q1 rfl A hA _ I₁ (F.keep I K₁)).fin K₁
    | false => exact (q2 rfl A hA _ I₁ (F.keep I K₁)).fin K₁
theorem E_unary {op : UnaryOp} {e : Expr} {pos : Pos} (h : EV y n env ρ σ e fun a σ₁ => O1 y n σ₁ (unaryOp op) a Q) : EV y n env ρ σ (.UnaryOp op e pos) Q :=
  fun A hA s I F E => by
    refine wpAny_UnaryOp ((h A hA s I F).use ?_)
    rintro a h₁ tk σ₁ I₁ K₁ ⟨xa, ra, q⟩
    exact (q A hA _ a I₁ ra).fin K₁

theorem evs_run {pos : Pos} : ∀ (es : List Expr) {R : List V → St → Prop} {σ : St}, EVs y n env ρ es R σ → (∀ e ∈ es, ∀ rest, starEach (e :: rest) env = (false, eval e env) :: starEach rest env) → ∀ A, Room A n → ∀ s, Inv y.B σ s.heap → FrOK y.B env ρ σ s.heap →
    Run y A No (spliced (backTo pos (starEach es env))) s σ (QL R)
  | [], R, σ, h, _, A, hA, s, I, F => fun E => wpAny_items_nil ⟨_, _, σ, rfl, I, .refl .., [], .nil, h⟩
  | e :: es, R, σ, h, hs, A, hA, s, I, F => fun E => by
    refine wpAny_items_cons ((h A hA s I F).use ?_) (hs e (.head _) es)
    rintro v h₁ tk σ₁ I₁ K₁ ⟨x, r, q⟩
    refine (evs_run es q (fun e he => hs e (.tail _ he)) A hA _ I₁ (F.keep I K₁)).use ?_
    rintro vs h₂ tk₂ σ₂ I₂ K₂ ⟨xs, rs, q⟩
    exact ⟨h₂, tk₂, σ₂, rfl, I₂, K₁.trans0 K₂, x :: xs, .cons (r.keep I₁ K₂) rs, q⟩
noncomputable def plainE : Expr → Bool
  | .Starred .. => false
  | _ => true
theorem plainEs {es : List Expr} (h : es.all plainE = true) : ∀ e ∈ es, ∀ rest, starEach (e :: rest) env = (false, eval e env) :: starEach rest env := fun e he rest => by
  have := List.all_eq_true.mp h e he
  cases e <;> first | rfl | cases this
theorem RepL.length {h : Heap} {vs : List Value} {l : List V} (r : RepL h vs l) : vs.length = l.length := r.ind (P := fun vs l => vs.length = l.length) rfl fun _ _ _ _ _ _ e => congrArg Nat.succ e
theorem Keep.tup {B : Heap} {σ : St} {h : Heap} (I : Inv B σ h) (o : Obj) : Inv B σ (h.push o) ∧ Keep No σ h σ (h.push o) := grow I fun _ _ e => Heap.get?_push_of_some o e
theorem isTup_new {h : Heap} {vs : List Value} : PT (h.push { cls := .type "tuple", data := .seq vs.toArray }) h.objs.size vs := ⟨_, Heap.get?_push_size _ rfl⟩
theorem E_tuple {es : List Expr} {k : Nat} {pos : Pos} (h : EVs y n env ρ es (KTup Q) σ) (hs : es.all plainE = true := by rfl) : EV y n env ρ σ (.Tuple es k pos) Q :=
  fun A hA s I F E => by
    refine wpAny_Tuple ((evs_run es h (plainEs hs) A hA s I F).use ?_)
    rintro vs h₁ tk σ₁ I₁ K₁ ⟨xs, rs, hl, q⟩
    have hz : vs.length ≤ sizeLine := by rw [rs.length, sizeLine_eq]; exact ar316 hl
    obtain ⟨I₂, K₂⟩ := Keep.tup I₁ { cls := .type "tuple", data := .seq vs.toArray }
    exact ⟨hz, _, _, σ₁, rfl, I₂, K₁.trans0 K₂, _, .tup isTup_new (rs.keep I₁ K₂), q⟩
theorem E_list {es : List Expr} {pos : Pos} (h : EVs y n env ρ es (KList Q) σ) (hs : es.all plainE = true := by rfl) : EV y n env ρ σ (.List es pos) Q :=
  fun A hA s I F E => by
    refine wpAny_List ((evs_run es h (plainEs hs) A hA s I F).use ?_)
    rintro vs h₁ tk σ₁ I₁ K₁ ⟨xs, rs, hl, q⟩
    have hz : vs.length ≤ sizeLine := by rw [rs.length, sizeLine_eq]; exact ar316 hl
    obtain ⟨I₂, K₂, fr⟩ := push (x := .list xs) I₁ (o := { cls := .type "list", data := .seq vs.toArray }) rfl ⟨vs, 0, rfl, rs⟩
    exact ⟨hz, _, _, _, rfl, I₂, K₁.trans0 K₂, _, .val _, q _ fr⟩
end
end Mine
end
section
open PySem PySem.W PySem.Calls PyProof.Rows
namespace Mine

noncomputable def Lst (y : Sy) (σ : St) (a : Addr) (l : List V) : Prop := σ a = some (.list l) ∨ ∃ vs, y.B.IsList a (vs : List Value).toArray ∧ RepL y.B vs l
theorem Lst.at {y : Sy} {σ : St} {a : Addr} {l : List V} {h : Heap} (x : Lst y σ a l) (I : Inv y.B σ h) : ∃ vs, h.IsList a (vs : List Value).toArray ∧ RepL h vs l := by
  rcases x with e | ⟨vs, ⟨o, ho, r⟩, r'⟩
  · obtain ⟨o, ho, vs, n, rfl, r⟩ := I.obj _ _ e
    exact ⟨vs, ⟨_, ho, rfl, n, rfl⟩, r⟩
  · exact ⟨vs, ⟨o, I.base _ _ ho, r⟩, r'.mono fun _ _ _ e => I.base _ _ e⟩
theorem Lst.of {y : Sy} {σ : St} {a : Addr} {l : List V} (e : σ a = some (.list l)) : Lst y σ a l := .inl e

mutual
inductive Rd (y : Sy) (σ : St) : V → Dat → Prop
  | int (i : Int) : Rd y σ (.int i) (.int i)
  | str (x : Str) : Rd y σ (.str x) (.str x)
  | none : Rd y σ (.val .none) .none
  | tup {l : List V} {ds : List Dat} : RdL y σ l ds → Rd y σ (.tup l) (.tuple ds)
  | list {a : Addr} {l : List V} {ds : List Dat} : Lst y σ a l → RdL y σ l ds → Rd y σ (.val (.ref a)) (.list ds)
inductive RdL (y : Sy) (σ : St) : List V → List Dat → Prop
  | nil : RdL y σ [] []
  | cons {x : V} {d : Dat} {l : List V} {ds : List Dat} : Rd y σ x d → RdL y σ l ds → RdL y σ (x :: l) (d :: ds)
end

mutual
theorem Rd.reads {y : Sy} {σ : St} {h : Heap} (I : Inv y.B σ h) {x : V} {d : Dat} (r : Rd y σ x d) {v : Value} (q : RepV h v x) : ∃ as, Reads h v (kqdP d) as := by
  cases r with
  | int i => cases q; exact ⟨_, .int _ _⟩
  | str i => cases q; exact ⟨_, .str _ _⟩
  | none => cases q; exact ⟨_, .none⟩
  | tup rl =>
    cases q with
    | tup t ql =>
      obtain ⟨as, z⟩ := rl.reads I ql
      obtain ⟨n, e⟩ := t
      exact ⟨as, .tuple e rfl rfl (by simpa using z)⟩
  | list hl rl =>
    cases q
    obtain ⟨vs, ⟨o, ho, hc, n, hd⟩, ql⟩ := hl.at I
    obtain ⟨as, z⟩ := rl.reads I ql
    exact ⟨_, .list ho hc hd (by simpa using z)⟩
theorem RdL.reads {y : Sy} {σ : St} {h : Heap} (I : Inv y.B σ h) {l : List V} {ds : List Dat} (r : RdL y σ l ds) {vs : List Value} (q : RepL h vs l) : ∃ as, ReadsAll h vs (kqdPs ds) as := by
  cases r with
  | nil => cases q; exact ⟨_, .nil⟩
  | cons a b =>
    cases q with
    | cons p q =>
      obtain ⟨as, z⟩ := a.reads I p
      obtain ⟨bs, w⟩ := b.reads I q
      exact ⟨_, .cons z w⟩
end
theorem Room.u64 {A : Around} {n : Nat} (r : Room A n) : A.units + 64 < cLine := by have := r.un; exact ar349 this
theorem shaped_of {n : Nat} (hn : n ≤ 64) {d : Dat} (h : kqdOk n d = true) : SeqAt.shaped (kqdP d) = true := by
  have l := kqd_lay n d h
  unfold SeqAt.shaped; rw [l.1, Bool.true_and]; exact decide_eq_true (Nat.le_trans l.2 hn)

section
variable {y : Sy} {n : Nat} {env : Env} {ρ : Str → Option V} {σ : St} {Q : V → St → Prop}
theorem O2_eq {a b : V} {d e : Dat} (ra : Rd y σ a d) (rb : Rd y σ b e) (ha : kqdOk 9 d = true) (hb : kqdOk 9 e = true) (h : ∀ c : Bool, (c = true ↔ d = e) → Q (.val (.bool c)) σ) : O2 y n σ (compareOp .Eq) a b Q :=
  fun A hA s v u I r1 r2 E => by
    obtain ⟨as, q1⟩ := ra.reads I r1
    obtain ⟨bs, q2⟩ := rb.reads I r2
    exact eq_dataH q1 q2 (shaped_of (by decide) ha) (shaped_of (by decide) hb) hA.u64 ⟨_, _, σ, rfl, I, .refl .., _, .val _, h _ (kqd_eqv 9 d e 9 ha hb)⟩
theorem O2_ne {a b : V} {d e : Dat} (ra : Rd y σ a d) (rb : Rd y σ b e) (ha : kqdOk 9 d = true) (hb : kqdOk 9 e = true) (h : ∀ c : Bool, (c = true ↔ d ≠ e) → Q (.val (.bool c)) σ) : O2 y n σ (compareOp .NotEq) a b Q :=
  fun A hA s v u I r1 r2 E => by
    obtain ⟨as, q1⟩ := ra.reads I r1
    obtain ⟨bs, q2⟩ := rb.reads I r2
    refine ne_dataH q1 q2 (shaped_of (by decide) ha) (shaped_of (by decide) hb) hA.u64 ⟨_, _, σ, rfl, I, .refl .., _, .val _, h _ ?_⟩
    rw [Bool.not_eq_true', Ne, ← kqd_eqv 9 d e 9 ha hb, Bool.not_eq_true]
theorem mem_kqd {d : Dat} : ∀ {ds : List Dat}, (∀ e ∈ ds, kqdOk 8 e = true) → kqdOk 8 d = true → ((kqdPs ds).any (fun y => PyData.eqv y (kqdP d)) = true ↔ d ∈ ds) := fun {ds} h hd => kqd_any ds d h hd
theorem O2_in {a : Addr} {x : V} {l : List V} {ds : List Dat} {d : Dat} (hl : Lst y σ a l) (rl : RdL y σ l ds) (rx : Rd y σ x d) (ha : ∀ e ∈ ds, kqdOk 8 e = true) (hd : kqdOk 8 d = true) (h : ∀ c : Bool, (c = true ↔ d ∈ ds) → Q (.val (.bool c)) σ) : O2 y n σ (compareOp .In) x (.val (.ref a)) Q :=
  fun A hA s v u I r1 r2 E => by
    cases r2
    obtain ⟨vs, hL, rv⟩ := hl.at I
    obtain ⟨as, q1⟩ := rl.reads I rv
    obtain ⟨bs, q2⟩ := rx.reads I r1
    obtain ⟨o, ho, hc, k, hdd⟩ := hL
    have l8 := kqd_layL ha
    have ld := kqd_lay 8 d hd
    have hu := hA.u64
    refine SeqAt.in_list_reads (.list ho hc hdd (by simpa using q1)) q2 l8.1 ld.1 ?_ ⟨_, _, σ, rfl, I, .refl .., _, .val _, h _ (mem_kqd ha hd)⟩
    have := Nat.min_le_right (PyData.depthAll (kqdPs ds)) (kqdP d).depth
    have := ld.2
    exact ar350 ld hu
theorem O2_notIn {a : Addr} {x : V} {l : List V} {ds : List Dat} {d : Dat} (hl : Lst y σ a l) (rl : RdL y σ l ds) (rx : Rd y σ x d) (ha : ∀ e ∈ ds, kqdOk 8 e = true) (hd : kqdOk 8 d = true) (h : ∀ c : Bool, (c = true ↔ d ∉ ds) → Q (.val (.bool c)) σ) : O2 y n σ (compareOp .NotIn) x (.val (.ref a)) Q :=
  fun A hA s v u I r1 r2 E => by
    cases r2
    obtain ⟨vs, hL, rv⟩ := hl.at I
    obtain ⟨as, q1⟩ := rl.reads I rv
    obtain ⟨bs, q2⟩ := rx.reads I r1
    obtain ⟨o, ho, hc, k, hdd⟩ := hL
    have l8 := kqd_layL ha
    have ld := kqd_lay 8 d hd
    have hu := hA.u64
    refine SeqAt.notIn_list_reads (.list ho hc hdd (by simpa using q1)) q2 l8.1 ld.1 ?_ ⟨_, _, σ, rfl, I, .refl .., _, .val _, h _ ?_⟩
    · have := Nat.min_le_right (PyData.depthAll (kqdPs ds)) (kqdP d).depth
      have := ld.2
      exact ar350 ld hu
    · rw [Bool.not_eq_true', ← mem_kqd ha hd, Bool.not_eq_true]

theorem O2.ii {t : Value → Value → Sem Value} {a b : Int} (h : ∀ A, Room A n → ∀ s p q, Inv y.B σ s.heap → Run y A No (t (.int a p) (.int b q)) s σ (QV Q)) : O2 y n σ t (.int a) (.int b) Q := fun A hA s v u I r1 r2 => by
  obtain ⟨p, e⟩ := r1.int_inv; obtain ⟨q, e'⟩ := r2.int_inv; rw [e, e']; exact h A hA s p q I
theorem O2.ss {t : Value → Value → Sem Value} {a b : Str} (h : ∀ A, Room A n → ∀ s p q, Inv y.B σ s.heap → Run y A No (t (.str a p) (.str b q)) s σ (QV Q)) : O2 y n σ t (.str a) (.str b) Q := fun A hA s v u I r1 r2 => by
  obtain ⟨p, e⟩ := r1.str_inv; obtain ⟨q, e'⟩ := r2.str_inv; rw [e, e']; exact h A hA s p q I
theorem O2.vv {t : Value → Value → Sem Value} {a b : Value} (h : ∀ A, Room A n → ∀ s, Inv y.B σ s.heap → Run y A No (t a b) s σ (QV Q)) : O2 y n σ t (.val a) (.val b) Q := fun A hA s v u I r1 r2 => by
  rw [r1.val_inv, r2.val_inv]; exact h A hA s I
theorem O2.vi {t : Value → Value → Sem Value} {a : Value} {b : Int} (h : ∀ A, Room A n → ∀ s q, Inv y.B σ s.heap → Run y A No (t a (.int b q)) s σ (QV Q)) : O2 y n σ t (.val a) (.int b) Q := fun A hA s v u I r1 r2 => by
  obtain ⟨q, e'⟩ := r2.int_inv; rw [r1.val_inv, e']; exact h A hA s q I
theorem O1.i {t : Value → Sem Value} {a : Int} (h : ∀ A, Room A n → ∀ s p, Inv y.B σ s.heap → Run y A No (t (.int a p)) s σ (QV Q)) : O1 y n σ t (.int a) Q := fun A hA s v I r1 => by
  obtain ⟨p, e⟩ := r1.int_inv; rw [e]; exact h A hA s p I
theorem O1.v {t : Value → Sem Value} {a : Value} (h : ∀ A, Room A n → ∀ s, Inv y.B σ s.heap → Run y A No (t a) s σ (QV Q)) : O1 y n σ t (.val a) Q := fun A hA s v I r1 => by
  rw [r1.val_inv]; exact h A hA s I
theorem O2_add {a b : Int} (h : Q (.int (a + b)) σ) : O2 y n σ (binaryOp .Add) (.int a) (.int b) Q := O2.ii fun _ _ _ _ _ I _ => add_int ⟨_, _, σ, rfl, I, .refl .., _, .int .., h⟩
theorem O2_sub {a b : Int} (h : Q (.int (a - b)) σ) : O2 y n σ (binaryOp .Sub) (.int a) (.int b) Q := O2.ii fun _ _ _ _ _ I _ => sub_int ⟨_, _, σ, rfl, I, .refl .., _, .int .., h⟩
theorem O2_mod {a b : Int} (hb : b ≠ 0) (h : Q (.int (a.fmod b)) σ) : O2 y n σ (binaryOp .Mod) (.int a) (.int b) Q := O2.ii fun _ _ _ _ _ I _ => mod_int hb ⟨_, _, σ, rfl, I, .refl .., _, .int .., h⟩
theorem O2_fdiv {a b : Int} (hb : b ≠ 0) (hp : Builtin.divisionGoesByPylong a b = false) (h : Q (.int (a.fdiv b)) σ) : O2 y n σ (binaryOp .FloorDiv) (.int a) (.int b) Q := O2.ii fun A hA s _ _ I _ =>
  AutoIntOps.floordiv_1 (by simpa using hb) (by rw [hp]; decide) (show (Made.int _).post _ _ from ⟨_, _, σ, rfl, I, .refl .., _, .int .., h⟩)
theorem O1_neg {a : Int} (h : Q (.int (-a)) σ) : O1 y n σ (unaryOp .USub) (.int a) Q := O1.i fun _ _ _ _ I _ => P.neg_int ⟨_, _, σ, rfl, I, .refl .., _, .int .., h⟩
theorem O1_not {b : Bool} (h : Q (.val (.bool !b)) σ) : O1 y n σ (unaryOp .Not) (.val (.bool b)) Q := O1.v fun _ _ _ I _ => not_value (wpAny_truthy_bool ⟨_, _, σ, rfl, I, .refl .., _, .val _, h⟩)
theorem O2_lt {a b : Int} (h : Q (.val (.bool (decide (a < b)))) σ) : O2 y n σ (compareOp .Lt) (.int a) (.int b) Q := O2.ii fun _ _ _ _ _ I _ => lt_int ⟨_, _, σ, rfl, I, .refl .., _, .val _, h⟩
theorem O2_le {a b : Int} (h : Q (.val (.bool (decide (a ≤ b)))) σ) : O2 y n σ (compareOp .LtE) (.int a) (.int b) Q := O2.ii fun _ _ _ _ _ I _ => le_int ⟨_, _, σ, rfl, I, .refl .., _, .val _, h⟩
theorem O2_gt {a b : Int} (h : Q (.val (.bool (decide (b < a)))) σ) : O2 y n σ (compareOp .Gt) (.int a) (.int b) Q := O2.ii fun _ _ _ _ _ I _ => gt_int ⟨_, _, σ, rfl, I, .refl .., _, .val _, h⟩
theorem O2_ge {a b : Int} (h : Q (.val (.bool (decide (b ≤ a)))) σ) : O2 y n σ (compareOp .GtE) (.int a) (.int b) Q := O2.ii fun _ _ _ _ _ I _ => ge_int ⟨_, _, σ, rfl, I, .refl .., _, .val _, h⟩
theorem O2_eqi {a b : Int} (h : Q (.val (.bool (a == b))) σ) : O2 y n σ (compareOp .Eq) (.int a) (.int b) Q := O2.ii fun _ _ _ _ _ I _ => eq_int ⟨_, _, σ, rfl, I, .refl .., _, .val _, h⟩
theorem O2_nei {a b : Int} (h : Q (.val (.bool (a != b))) σ) : O2 y n σ (compareOp .NotEq) (.int a) (.int b) Q := O2.ii fun _ _ _ _ _ I _ => ne_int ⟨_, _, σ, rfl, I, .refl .., _, .val _, h⟩
theorem O2_eqs {a b : Str} (h : Q (.val (.bool (a == b))) σ) : O2 y n σ (compareOp .Eq) (.str a) (.str b) Q := O2.ss fun _ _ _ _ _ I _ => eq_str ⟨_, _, σ, rfl, I, .refl .., _, .val _, h⟩
theorem O2_eqNone {b : Int} (h : Q (.val (.bool false)) σ) : O2 y n σ (compareOp .Eq) (.val .none) (.int b) Q := O2.vi fun _ _ _ _ I _ => EqNone.eq_none_int ⟨_, _, σ, rfl, I, .refl .., _, .val _, h⟩
theorem O2_neb {a b : Bool} (h : Q (.val (.bool (a != b))) σ) : O2 y n σ (compareOp .NotEq) (.val (.bool a)) (.val (.bool b)) Q := O2.vv fun _ _ _ I _ => ne_bool ⟨_, _, σ, rfl, I, .refl .., _, .val _, h⟩
noncomputable def isNoneV : V → Bool
  | .val .none => true
  | _ => false
theorem O2_isNone {a : V} (h : Q (.val (.bool (isNoneV a))) σ) : O2 y n σ (compareOp .Is) a (.val .none) Q := fun _ _ s v _ I r1 r2 _ => by
  rw [r2.val_inv]
  have e : (v == Value.none) = isNoneV a := by cases r1 with | val v => cases v <;> rfl | _ => rfl
  exact is_none (by rw [e]; exact ⟨_, _, σ, rfl, I, .refl .., _, .val _, h⟩)
theorem O2_isTrue {b : Bool} (h : Q (.val (.bool b)) σ) : O2 y n σ (compareOp .Is) (.val (.bool b)) (.val (.bool true)) Q := O2.vv fun _ _ s I _ => by
  show wpAny _ _ ((isSame (.bool b) (.bool true)) >>= fun c => pure (Value.bool c)) _ _ _
  rw [isSame_plain rfl]
  refine wpAny_bind (wpAny_pure (wpAny_pure ?_))
  have e : ((Value.bool b : Value) == .bool true) = b := by cases b <;> rfl
  rw [e]
  exact ⟨_, _, σ, rfl, I, .refl .., _, .val _, h⟩

theorem RepL.append {h : Heap} {vs ws : List Value} {l k : List V} (r : RepL h vs l) (q : RepL h ws k) : RepL h (vs ++ ws) (l ++ k) := r.ind (P := fun vs l => RepL h (vs ++ ws) (l ++ k)) q fun _ _ _ _ a _ ih => .cons a ih
theorem O2_addT {l k : List V} (hz : l.length + k.length ≤ 10000) (h : Q (.tup (l ++ k)) σ) : O2 y n σ (binaryOp .Add) (.tup l) (.tup k) Q := fun A hA s v u I r1 r2 E => by
  obtain ⟨a, vs, ea, t1, l1⟩ := r1.tup_inv
  obtain ⟨b, ws, eb, t2, l2⟩ := r2.tup_inv
  rw [ea, eb]
  obtain ⟨n1, e1⟩ := id t1
  obtain ⟨n2, e2⟩ := id t2
  have z1 := l1.length
  have z2 := l2.length
  by_cases hv : vs = []
  · have hl : l = [] := List.length_eq_zero_iff.mp (by rw [← z1, hv]; rfl)
    rw [hl] at h
    rw [hv] at e1
    exact concat_meets ⟨_, e1, rfl⟩ ⟨_, e2, rfl⟩ noFill_tuple_add seq_tuple_add PySem.F.slot_tuple_add PySem.F.entry_tuple_add (PySem.F.args_tuple_add_2 _ _)
      (tuple_addW0 a b _ ws.toArray n1 n2 none none #[] #[] (by simp)) ⟨e1, e2, _, _, σ, rfl, I, .refl .., _, .tup t2 l2, h⟩
  · by_cases hw : ws = []
    · have hl : k = [] := List.length_eq_zero_iff.mp (by rw [← z2, hw]; rfl)
      rw [hl, List.append_nil] at h
      rw [hw] at e2
      exact concat_meets ⟨_, e1, rfl⟩ ⟨_, e2, rfl⟩ noFill_tuple_add seq_tuple_add PySem.F.slot_tuple_add PySem.F.entry_tuple_add (PySem.F.args_tuple_add_2 _ _)
        (tuple_addW1 a b vs.toArray _ n1 n2 none none #[] #[] (by simpa using hv) (by simp)) ⟨e1, e2, _, _, σ, rfl, I, .refl .., _, .tup t1 l1, h⟩
    · refine P.add_tuple e1 e2 (by simpa using hv) (by simpa using hw) ?_ (by rw [sizeLine_eq]; simp; exact ar351 hz z1 z2)
      have I' := Keep.tup I { cls := .type "tuple", data := .seq (vs.toArray ++ ws.toArray) }
      refine ⟨_, _, σ, rfl, I'.1, I'.2, _, .tup (vs := vs ++ ws) ⟨0, ?_⟩ ((l1.append l2).keep I I'.2), h⟩
      rw [show (vs ++ ws).toArray = vs.toArray ++ ws.toArray from by simp]
      exact Heap.get?_push_size _ rfl
theorem O2_addL {a b : Addr} {l k : List V} (ha : σ a = some (.list l)) (hb : σ b = some (.list k)) (hz : l.length + k.length ≤ 10000) (h : ∀ c, σ c = none → Q (.val (.ref c)) (σ.put c (.list (l ++ k)))) : O2 y n σ (binaryOp .Add) (.val (.ref a)) (.val (.ref b)) Q := O2.vv fun A hA s I E => by
  obtain ⟨o, e1, vs, n1, eo1, l1⟩ := I.obj _ _ ha
  rw [eo1] at e1
  obtain ⟨o', e2, ws, n2, eo2, l2⟩ := I.obj _ _ hb
  rw [eo2] at e2
  have z1 := l1.length
  have z2 := l2.length
  refine P.add_list e1 e2 ?_ (by rw [sizeLine_eq]; simp; exact ar351 hz z1 z2)
  obtain ⟨I₂, K₂, fr⟩ := push (x := .list (l ++ k)) I (o := { cls := .type "list", data := .seq (vs.toArray ++ ws.toArray) }) rfl ⟨vs ++ ws, 0, by simp, l1.append l2⟩
  exact ⟨_, _, _, rfl, I₂, K₂, _, .val _, h _ fr⟩
end
end Mine
end
section
open PySem PySem.W PySem.Calls PyProof.Rows
namespace Mine

theorem RepL.get {h : Heap} {vs : List Value} {l : List V} (r : RepL h vs l) {j : Nat} {u : V} (e : l[j]? = some u) : ∃ v, vs[j]? = some v ∧ RepV h v u :=
  r.ind (P := fun vs l => ∀ j, l[j]? = some u → ∃ v, vs[j]? = some v ∧ RepV h v u) (fun j e => by rw [List.getElem?_nil] at e; cases e) (fun v x vs l a _ ih j e => by
    cases j with
    | zero => cases e; exact ⟨v, rfl, a⟩
    | succ j => exact ih j e) j e
theorem RepL.drop {h : Heap} {vs : List Value} {l : List V} (r : RepL h vs l) (k : Nat) : RepL h (vs.drop k) (l.drop k) :=
  r.ind (P := fun vs l => ∀ k, RepL h (vs.drop k) (l.drop k)) (fun k => by rw [List.drop_nil, List.drop_nil]; exact .nil) (fun v x vs l a b ih k => by
    cases k with
    | zero => exact .cons a b
    | succ k => exact ih k) k
theorem RepL.take {h : Heap} {vs : List Value} {l : List V} (r : RepL h vs l) (k : Nat) : RepL h (vs.take k) (l.take k) :=
  r.ind (P := fun vs l => ∀ k, RepL h (vs.take k) (l.take k)) (fun k => by rw [List.take_nil, List.take_nil]; exact .nil) (fun v x vs l a b ih k => by
    cases k with
    | zero => exact .nil
    | succ k => exact .cons a (ih k)) k
theorem RepL.filterIdx {h : Heap} {vs : List Value} {l : List V} (r : RepL h vs l) : ∀ (ix : List Nat), RepL h (ix.filterMap (vs[·]?)) (ix.filterMap (l[·]?))
  | [] => .nil
  | k :: ix => by
    rw [List.filterMap_cons, List.filterMap_cons]
    by_cases hk : k < l.length
    · obtain ⟨v, e, q⟩ := r.get (j := k) (u := l[k]) (by simp [hk])
      rw [e, List.getElem?_eq_getElem hk]
      exact .cons q (r.filterIdx ix)
    · have z := r.length
      rw [List.getElem?_eq_none (l := l) (by exact ar4 hk), List.getElem?_eq_none (l := vs) (by exact ar364 hk z)]
      exact r.filterIdx ix

noncomputable def Item (y : Sy) (σ : St) : V → V → V → Prop
  | .tup l, .int k, u => ∃ j, l.length ≤ 1000000 ∧ seqIndex? k l.length = some j ∧ l[j]? = some u
  | .val (.ref a), .int k, u => ∃ l j, Lst y σ a l ∧ l.length ≤ 1000000 ∧ seqIndex? k l.length = some j ∧ l[j]? = some u
  | _, _, _ => False
theorem seqIndex_bounds {k : Int} {n j : Nat} (h : seqIndex? k n = some j) : -(n : Int) ≤ k ∧ k < n ∧ j < n ∧ (0 ≤ k → j = k.toNat) ∧ (k < 0 → j = (k + n).toNat) := by
  unfold seqIndex? at h
  by_cases hk : k < 0
  · simp only [hk, if_true] at h
    split at h
    · rename_i c; simp only [Bool.and_eq_true, decide_eq_true_eq] at c; cases h; exact ar365 c
    · cases h
  · simp only [hk, if_false] at h
    split at h
    · rename_i c; simp only [Bool.and_eq_true, decide_eq_true_eq] at c; cases h; exact ar366 c
    · cases h
theorem seqIndex_pos {k : Int} {n : Nat} (h0 : 0 ≤ k) (h1 : k < n) : seqIndex? k n = some k.toNat := by
  unfold seqIndex?
  have hk : ¬ k < 0 := by exact ar367 h0
  simp only [hk, if_false]
  rw [if_pos (by simp only [Bool.and_eq_true, decide_eq_true_eq]; exact ar368 h0 h1)]
noncomputable def notSlice : Expr → Bool
  | .Slice .. => false
  | _ => true
theorem subscripted_plain {slice : Expr} (h : notSlice slice = true) (o i : Value) : subscripted slice false o i = operate [o, i] (getItem o i) := by
  cases slice <;> first | rfl | cases h

section
variable {y : Sy} {n : Nat} {env : Env} {ρ : Str → Option V} {σ : St} {Q : V → St → Prop}
inductive KI (y : Sy) (o : V) (Q : V → St → Prop) (i : V) (σ₂ : St) : Prop
  | mk (u : V) (it : Item y σ₂ o i u) (h : Q u σ₂)
noncomputable def kSub (y : Sy) (n : Nat) (env : Env) (ρ : Str → Option V) (slice : Expr) (Q : V → St → Prop) (o : V) (σ₁ : St) : Prop := EV y n env ρ σ₁ slice (KI y o Q)
theorem E_sub {value slice : Expr} {pos : Pos} (h : EV y n env ρ σ value (kSub y n env ρ slice Q)) (hs : notSlice slice = true := by rfl) : EV y n env ρ σ (.Subscript value slice pos) Q :=
  fun A hA s I F E => by
    refine Subscript_ ((h A hA s I F).use ?_)
    rintro o h₁ tk σ₁ I₁ K₁ ⟨xo, ro, q₀⟩
    refine (q₀ A hA _ I₁ (F.keep I K₁)).use ?_
    clear q₀
    rintro i h₂ tk₂ σ₂ I₂ K₂ ⟨xi, ri, u, it, q⟩
    have ro := ro.keep I₁ K₂
    cases xo with
    | tup l =>
      cases xi with
      | int k =>
        obtain ⟨j, hz, hj, hu⟩ := it
        cases ri
        cases ro with
        | @tup a vs _ t rl =>
          obtain ⟨v, e, r⟩ := rl.get hu
          have b := seqIndex_bounds hj
          refine item_tupleT t.isTuple (by exact ar369 hz b) (by exact ar370 hz b) (j := j) (by rw [rl.length]; exact hj) e ?_ (subscripted_plain hs _ _)
          exact ⟨_, _, σ₂, rfl, I₂, K₁.trans0 K₂, u, r, q⟩
      | _ => exact it.elim
    | val v =>
      cases v with
      | ref a =>
        cases xi with
        | int k =>
          obtain ⟨l, j, hl, hz, hj, hu⟩ := it
          cases ri; cases ro
          obtain ⟨vs, hL, rl⟩ := hl.at I₂
          obtain ⟨v, e, r⟩ := rl.get hu
          have b := seqIndex_bounds hj
          have z := rl.length
          refine tail_any hL.typeIs slot_list_getitem.lookup ?_ (subscripted_plain hs _ _)
          have fin : Post y No s σ (QV Q) v (sw s h₂ tk₂) := ⟨_, _, σ₂, rfl, I₂, K₁.trans0 K₂, u, r, q⟩
          by_cases hk : 0 ≤ k
          · rw [b.2.2.2.1 hk] at e
            exact wpAny_getItem_list hL hk (by exact ar370 hz b) (by simpa using e) fin
          · rw [b.2.2.2.2 (by exact ar371 hk)] at e
            exact wpAny_getItem_list_neg hL (by exact ar371 hk) (by rw [List.size_toArray]; exact ar372 b z) (by exact ar369 hz b) (by simpa [z] using e) fin
        | _ => exact it.elim
      | _ => exact it.elim
    | _ => exact it.elim

inductive KPart (Q : Option Int → St → Prop) (x : V) (σ₁ : St) : Prop
  | mk (k : Int) (e : x = .int k) (h : Q (some k) σ₁)
noncomputable def EVo (y : Sy) (n : Nat) (env : Env) (ρ : Str → Option V) (σ : St) : Option Expr → (Option Int → St → Prop) → Prop
  | none, Q => Q none σ
  | some e, Q => EV y n env ρ σ e (KPart Q)
theorem evo_run {e : Option Expr} {R : Option Int → St → Prop} (h : EVo y n env ρ σ e R) {A : Around} (hA : Room A n) {s : Shared} (I : Inv y.B σ s.heap) (F : FrOK y.B env ρ σ s.heap) : Run y A No (evalPart e env) s σ fun v _ σ' => ∃ k, IsPart v k ∧ R k σ' := by
  cases e with
  | none => exact Run.pure I ⟨none, .none, h⟩
  | some e =>
    exact (h A hA s I F).mono fun v h' σ' _ _ ⟨x, r, k, e, q⟩ => by subst e; cases r; exact ⟨some k, .int _ _, q⟩
noncomputable def pick {α : Type} (l : List α) (lo hi : Option Int) : List α := (sliceRange (sliceBounds lo hi none l.length).1 (sliceBounds lo hi none l.length).2.1 (sliceBounds lo hi none l.length).2.2).filterMap (l[·]?)
theorem pick_rep {h : Heap} {vs : List Value} {l : List V} (r : RepL h vs l) (lo hi : Option Int) : slicePick vs.toArray lo hi none = (pick vs lo hi).toArray ∧ RepL h (pick vs lo hi) (pick l lo hi) := by
  constructor
  · unfold slicePick pick
    simp
  · unfold pick
    rw [r.length]
    exact r.filterIdx _
inductive KSl (y : Sy) (Q : V → St → Prop) (o : V) (lo hi : Option Int) (σ₃ : St) : Prop
  | mk (a : Addr) (l : List V) (e : o = .val (.ref a)) (hl : Lst y σ₃ a l) (hz : l.length ≤ 1000000) (h : ∀ b, σ₃ b = none → Q (.val (.ref b)) (σ₃.put b (.list (pick l lo hi))))
noncomputable def kSl2 (y : Sy) (n : Nat) (env : Env) (ρ : Str → Option V) (upper : Option Expr) (Q : V → St → Prop) (o : V) (lo : Option Int) (σ₂ : St) : Prop := EVo y n env ρ σ₂ upper (KSl y Q o lo)
noncomputable def kSl1 (y : Sy) (n : Nat) (env : Env) (ρ : Str → Option V) (lower upper : Option Expr) (Q : V → St → Prop) (o : V) (σ₁ : St) : Prop := EVo y n env ρ σ₁ lower (kSl2 y n env ρ upper Q o)
theorem E_slice {value : Expr} {lower upper : Option Expr} {p pos : Pos}
    (h : EV y n env ρ σ value (kSl1 y n env ρ lower upper Q)) :
    EV y n env ρ σ (.Subscript value (.Slice lower upper none p) pos) Q :=
  fun A hA s I F E => by
    refine Subscript_ ((h A hA s I F).use ?_)
    rintro o h₁ tk σ₁ I₁ K₁ ⟨xo, ro, q⟩
    refine wpAny_Slice ((evo_run q hA I₁ (F.keep I K₁)).use ?_)
    rintro vl h₂ tk₂ σ₂ I₂ K₂ ⟨lo, pl, q⟩
    refine (evo_run q hA I₂ ((F.keep I K₁).keep I₁ K₂)).use ?_
    rintro vu h₃ tk₃ σ₃ I₃ K₃ ⟨hi, pu, a, l, rfl, hl, hz, q'⟩
    rw [evalPart_none]
    cases ro
    refine wpAny_pure ?_
    obtain ⟨I₄, K₄⟩ := Keep.tup I₃ { cls := .type "slice", data := .fields #[vl, vu, .none] }
    obtain ⟨vs, hL, rl⟩ := hl.at I₄
    have z := rl.length
    refine tail_any (ops := [.ref _, .ref _]) hL.typeIs slot_list_getitem.lookup (wpAny_getItem_list_slice hL (Heap.IsSliceOf.new ..) pl pu .none (by simp) ?_ (by rw [sizeLine_eq]; simp; exact ar317 hz z)) rfl
    obtain ⟨e1, r1⟩ := pick_rep rl lo hi
    rw [e1]
    obtain ⟨I₅, K₅, fr⟩ := push (x := .list (pick l lo hi)) I₄ (o := { cls := .type "list", data := .seq (pick vs lo hi).toArray }) rfl ⟨_, 0, rfl, r1⟩
    exact ⟨_, _, _, rfl, I₅, (((K₁.trans0 K₂).trans0 K₃).trans0 K₄).trans0 K₅, _, .val _, q' _ fr⟩

noncomputable def Keeps (y : Sy) (f : Value) : Prop := ∀ h : Heap, (∀ b o, y.B.get? b = some o → h.get? b = some o) → ∃ k, (k = Keeper.frame ∨ k = Keeper.machine ∨ k = Keeper.boundFrame) ∧ Looks (model y.prog y.w) h (keeperOf f) k
theorem keeps_builtin (y : Sy) (i : String) : Keeps y (.builtin i) := fun _ _ => ⟨.machine, .inr (.inl rfl), Looks.of_pure rfl⟩
theorem keeps_type (y : Sy) (i : String) : Keeps y (.type i) := fun _ _ => ⟨.machine, .inr (.inl rfl), Looks.of_pure rfl⟩
theorem keeps_fn {y : Sy} {a : Addr} {o : Obj} {fd : FuncData} (ho : y.B.get? a = some o) (hd : o.data = .func fd) : Keeps y (.ref a) := fun h k =>
  ⟨.frame, .inl rfl, by
    obtain ⟨c, d, dt, sl⟩ := o
    subst hd
    exact (Looks.ld (part := none) (k _ _ ho)).andThen .now⟩

noncomputable def CallV (y : Sy) (n : Nat) (σ : St) (f : Value) (xs : List V) (Q : V → St → Prop) : Prop :=
  ∀ A, Room A n → ∀ s vs, Inv y.B σ s.heap → RepL s.heap vs xs → Run y A No (call f vs) s σ (QV Q)
theorem CallV.mono {f : Value} {xs : List V} {Q' : V → St → Prop} (h : CallV y n σ f xs Q) (q : ∀ x σ', Q x σ' → Q' x σ') : CallV y n σ f xs Q' :=
  fun A hA s vs I r => (h A hA s vs I r).mono fun _ _ _ _ _ ⟨x, r, z⟩ => ⟨x, r, q _ _ z⟩

theorem CallV.v1 {f u : Value} (h : ∀ A, Room A n → ∀ s, Inv y.B σ s.heap → Run y A No (call f [u]) s σ (QV Q)) : CallV y n σ f [.val u] Q := fun A hA s vs I r => by
  obtain ⟨v, e, r⟩ := r.one; rw [e, r.val_inv]; exact h A hA s I
theorem CallV.v2 {f u w : Value} (h : ∀ A, Room A n → ∀ s, Inv y.B σ s.heap → Run y A No (call f [u, w]) s σ (QV Q)) : CallV y n σ f [.val u, .val w] Q := fun A hA s vs I r => by
  obtain ⟨v, u, e, r, r'⟩ := r.two; rw [e, r.val_inv, r'.val_inv]; exact h A hA s I
theorem CallV.vx {f u : Value} {z : V} (h : ∀ A, Room A n → ∀ s w, Inv y.B σ s.heap → RepV s.heap w z → Run y A No (call f [u, w]) s σ (QV Q)) : CallV y n σ f [.val u, z] Q := fun A hA s vs I r => by
  obtain ⟨v, u, e, r, r'⟩ := r.two; rw [e, r.val_inv]; exact h A hA s u I r'
theorem CallV.x1 {f : Value} {z : V} (h : ∀ A, Room A n → ∀ s w, Inv y.B σ s.heap → RepV s.heap w z → Run y A No (call f [w]) s σ (QV Q)) : CallV y n σ f [z] Q := fun A hA s vs I r => by
  obtain ⟨v, e, r⟩ := r.one; rw [e]; exact h A hA s v I r
theorem CallV.t1 {f : Value} {l : List V} (h : ∀ A, Room A n → ∀ s a vs, Inv y.B σ s.heap → PT s.heap a vs → RepL s.heap vs l → Run y A No (call f [.ref a]) s σ (QV Q)) : CallV y n σ f [.tup l] Q := CallV.x1 fun A hA s w I r => by
  obtain ⟨a, vs, e, t, rl⟩ := r.tup_inv; rw [e]; exact h A hA s a vs I t rl
theorem CallV.i1 {f : Value} {a : Int} (h : ∀ A, Room A n → ∀ s p, Inv y.B σ s.heap → Run y A No (call f [.int a p]) s σ (QV Q)) : CallV y n σ f [.int a] Q := CallV.x1 fun A hA s w I r => by
  obtain ⟨p, e⟩ := r.int_inv; rw [e]; exact h A hA s p I
theorem CallV.i2 {f : Value} {a b : Int} (h : ∀ A, Room A n → ∀ s p q, Inv y.B σ s.heap → Run y A No (call f [.int a p, .int b q]) s σ (QV Q)) : CallV y n σ f [.int a, .int b] Q := fun A hA s vs I r => by
  obtain ⟨v, u, e, r, r'⟩ := r.two; obtain ⟨p, e1⟩ := r.int_inv; obtain ⟨q, e2⟩ := r'.int_inv; rw [e, e1, e2]; exact h A hA s p q I
theorem CallV.i3 {f : Value} {a b c : Int} (h : ∀ A, Room A n → ∀ s p q t, Inv y.B σ s.heap → Run y A No (call f [.int a p, .int b q, .int c t]) s σ (QV Q)) : CallV y n σ f [.int a, .int b, .int c] Q := fun A hA s vs I r => by
  obtain ⟨v, u, w, e, r, r', r''⟩ := r.three; obtain ⟨p, e1⟩ := r.int_inv; obtain ⟨q, e2⟩ := r'.int_inv; obtain ⟨t, e3⟩ := r''.int_inv; rw [e, e1, e2, e3]; exact h A hA s p q t I

theorem callWith_run {f : Value} {first : List Value} {xf : List V} {args : List Expr} {pos : Pos} (hk : Keeps y f) (h : EVs y n env ρ args (fun xs σ₂ => CallV y n σ₂ f (xf ++ xs) Q) σ) (hs : args.all plainE = true)
    {A : Around} (hA : Room A n) {s : Shared} (I : Inv y.B σ s.heap) (F : FrOK y.B env ρ σ s.heap) (rf : RepL s.heap first xf) :
    Run y A No (callWith pos f first (backTo pos (starEach args env)) []) s σ (QV Q) := by
  intro E
  have hp : ∀ args : List Expr, args.all plainE = true → (backTo pos (starEach args env)).any (·.1) = false := by
    intro args
    induction args with
    | nil => intro _; rfl
    | cons e es ih =>
      intro hs
      obtain ⟨h1, h2⟩ := Bool.and_eq_true_iff.mp (List.all_cons ▸ hs)
      rw [plainEs (es := e :: es) hs e (.head _) es]
      show (false || (backTo pos (starEach es env)).any (·.1)) = false
      rw [ih h2]; rfl
  refine callWith_of (P := fun h => ∀ b o, y.B.get? b = some o → h.get? b = some o) (by rw [hp args hs]; rfl) (fun h' k => hk h' k) ?_
  have fin : wpAny (model y.prog y.w) A (spliced (backTo pos (starEach args env))) (fun vs s₁ => (∀ b o, y.B.get? b = some o → s₁.heap.get? b = some o) ∧ wpAny (model y.prog y.w) A (call f (first ++ vs) []) (Post y No s σ (QV Q)) E s₁) E s := by
    refine (evs_run args h (plainEs hs) A hA s I F).use ?_
    rintro vs h₁ tk σ₁ I₁ K₁ ⟨xs, rs, q⟩
    refine ⟨I₁.base, (q A hA _ _ I₁ ((rf.keep I K₁).append rs)).use ?_⟩
    rintro v h₂ tk₂ σ₂ I₂ K₂ q
    exact ⟨_, _, σ₂, rfl, I₂, K₁.trans0 K₂, q⟩
  cases args with
  | nil =>
    refine evalArgs_nil3 ⟨I.base, ?_⟩
    exact (h A hA s (first ++ []) I (by simpa using rf)).use fun v h₂ tk₂ σ₂ I₂ K₂ q => ⟨_, _, σ₂, rfl, I₂, K₂, q⟩
  | cons e es =>
    rw [plainEs (es := e :: es) hs e (.head _) es] at fin ⊢
    exact evalArgs_plain (wpAny_mono fin (fun vs s₁ q => q) fun _ _ e => e)

inductive KCall0 (y : Sy) (n : Nat) (env : Env) (ρ : Str → Option V) (args : List Expr) (Q : V → St → Prop) (fv : V) (σ₁ : St) : Prop
  | mk (f : Value) (e : fv = .val f) (k : Keeps y f) (h : EVs y n env ρ args (fun xs σ₂ => CallV y n σ₂ f xs Q) σ₁)
theorem E_call {f : Str} {p pos : Pos} {args : List Expr} (h : EV y n env ρ σ (.Name f p) (KCall0 y n env ρ args Q)) (hs : args.all plainE = true := by rfl) :
    EV y n env ρ σ (.Call (.Name f p) args [] pos) Q :=
  fun A hA s I F E => by
    show wpAny _ A (do callWith pos (← eval (.Name f p) env) [] (backTo pos (starEach args env)) (backToKw pos (keywordEach [] env))) _ _ _
    refine wpAny_bind ((h A hA s I F).use ?_)
    rintro fv h₁ tk σ₁ I₁ K₁ ⟨xf, rf, f, rfl, hk, q⟩
    cases rf
    exact (callWith_run (xf := []) hk q hs hA I₁ (F.keep I K₁) .nil).fin K₁

noncomputable def GetM (y : Sy) (σ : St) (o : V) (name : Str) (f : Value) (first : List V) : Prop :=
  ∀ A s v pl E (Q : Value × List Value → Shared → Prop), Inv y.B σ s.heap → RepV s.heap v o → (∀ fs, RepL s.heap fs first → Q (f, fs) s) → wpAny (model y.prog y.w) A (getMethod v name pl) Q E s
inductive KMeth (y : Sy) (n : Nat) (env : Env) (ρ : Str → Option V) (name : Str) (args : List Expr) (Q : V → St → Prop) (ov : V) (σ₁ : St) : Prop
  | mk (f : Value) (first : List V) (m : GetM y σ₁ ov name f first) (k : Keeps y f) (h : EVs y n env ρ args (fun xs σ₂ => CallV y n σ₂ f (first ++ xs) Q) σ₁)
theorem E_method {o : Expr} {name : Str} {apos pos : Pos} {args : List Expr} (h : EV y n env ρ σ o (KMeth y n env ρ name args Q))
    (hbase : attributeBase o name env (eval o env) = eval o env := by rfl) (hline : (apos.endLine == pos.line) = true := by rfl) (hlen : decide (args.length < 30) = true := by rfl) (hs : args.all plainE = true := by rfl) :
    EV y n env ρ σ (.Call (.Attribute o name apos) args [] pos) Q :=
  fun A hA s I F E => by
    rw [arm_eval_Call, hbase]
    refine wpAny_bind ((h A hA s I F).use ?_)
    rintro ov h₁ tk σ₁ I₁ K₁ ⟨xo, ro, f, first, hm, hk, q⟩
    refine wpAny_bind (wpAny_standAt ?_)
    have hall : ∀ args : List Expr, args.all plainE = true → (backTo pos (starEach args env)).all (fun x => !x.1) = true := by
      intro args
      induction args with
      | nil => intro _; rfl
      | cons e es ih =>
        intro hs
        obtain ⟨h1, h2⟩ := Bool.and_eq_true_iff.mp (List.all_cons ▸ hs)
        rw [plainEs (es := e :: es) hs e (.head _) es]
        show (true && (backTo pos (starEach es env)).all (fun x => !x.1)) = true
        rw [ih h2]; rfl
    have hform : methodCallForm (args.length + ([] : List Keyword).length) (backTo pos (starEach args env)) (backToKw pos (keywordEach [] env)) = true := by
      unfold methodCallForm
      rw [hall args hs]
      show (true && true && decide (args.length + 0 + 0 < 30)) = true
      simpa using hlen
    have hpos : methodCallPos true o env apos pos = pure pos := by unfold methodCallPos; simp [hline]
    unfold methodCall
    rw [hform]
    refine wpAny_bind (wpAny_holding ?_)
    refine hm A _ ov _ E _ I₁ ro fun fs rfs => ?_
    refine wpAny_bind (wpAny_of_eq hpos ?_)
    exact (callWith_run hk q hs hA I₁ (F.keep I K₁) rfs).fin K₁
end
end Mine
end
section
open PySem PySem.W PySem.Calls PyProof.Rows
set_option maxRecDepth 100000
namespace Mine

noncomputable def upInts (x : Int) : Nat → List V
  | 0 => []
  | k + 1 => .int x :: upInts (x + 1) k
theorem upInts_length (x : Int) (k : Nat) : (upInts x k).length = k := by
  induction k generalizing x with
  | zero => rfl
  | succ k ih => simp [upInts, ih]
noncomputable abbrev listObj (vs : List Value) (n : Nat) : Obj := { cls := .type "list", data := .seq vs.toArray n }

section
variable {prog : Program} {w : World} {A : Around} {E : Value → Shared → Prop} {s : Shared} {R : Result → Shared → Prop}
theorem ext_loop (hh : A.handled = none) {S I : Addr} (hne : S ≠ I) (res : Value) : ∀ (k : Nat) (x : Int) (s : Shared) (acc : List Value) (c : Nat), IsRangeIter s.heap I x k 1 → s.heap.get? S = some (listObj acc c) → acc.length + k ≤ sizeLine →
    (∀ h' tk vs c', (∀ b o, b ≠ S → b ≠ I → s.heap.get? b = some o → h'.get? b = some o) → h'.get? S = some (listObj (acc ++ vs) c') → RepL h' vs (upInts x k) → R (.ok (.ret res)) (sw s h' tk)) →
    codeAny (model prog w) A (.builtin "list.extend.loop" ⟨[.ref S, .ref I, res], []⟩) R s := by
  intro k
  induction k with
  | zero =>
    intro x s acc c hI hS hz hR
    refine codeAny_builtin PySem.F.entry_extend_loop ?_
    rw [Around.under_plainId PySem.F.plain_extend_loop _]
    show wpAny _ A.in1 (pyNext (.ref I) >>= _) _ _ s
    refine wpAny_bind (wpAny_pyNext_range_end hh hI (by simp) fun h' k => ?_)
    exact wpAny_pure (hR h' s.toks [] c (fun b o _ hb e => k b o hb e) (by rw [List.append_nil]; exact k S _ hne hS) .nil)
  | succ k ih =>
    intro x s acc c hI hS hz hR
    refine codeAny_builtin PySem.F.entry_extend_loop ?_
    rw [Around.under_plainId PySem.F.plain_extend_loop _]
    show wpAny _ A.in1 (pyNext (.ref I) >>= _) _ _ s
    refine wpAny_bind (wpAny_pyNext_range_item hI (by exact ar373) fun h₁ hI₁ hs₁ => ?_)
    have hS₁ := (hs₁.2 S hne).trans hS
    show wpAny _ A.in1 (updateSeq S (·.push (.int x s.toks)) >>= _) _ _ _
    refine wpAny_bind (wpAny_updateSeq hS₁ rfl (wpAny_pure ⟨plainId_quiet PySem.F.plain_extend_loop _, ?_⟩) (by simp; exact ar374 hz) (by simp; exact ar374 hz))
    have hS₂ := Heap.get?_update_self (Obj.mapSeq (·.push (Value.int x s.toks))) hS₁ rfl
    have e : (listObj acc c).mapSeq (·.push (Value.int x s.toks)) = listObj (acc ++ [.int x s.toks]) (c + 1) := by
      simp [Obj.mapSeq, listObj]
    rw [e] at hS₂
    refine ih (x + 1) _ (acc ++ [.int x s.toks]) _ ?_ hS₂ (by simp; exact ar375 hz) fun h' tk vs c' k' hS' r => ?_
    · have := (Heap.get?_update_other h₁ (Obj.mapSeq (·.push (Value.int x s.toks))) hne).trans hI₁
      rw [show ((k + 1 : Nat) : Int) - 1 = (k : Int) from by exact ar376] at this
      exact this
    · refine hR h' tk (.int x s.toks :: vs) c' (fun b o hb hb' e => k' b o hb hb' ?_) (by simpa using hS') (.cons (.int ..) r)
      exact (Heap.get?_update_other _ _ (Ne.symm hb)).trans ((hs₁.2 b hb').trans e)
theorem ext_range (hh : A.handled = none) {S r : Addr} {a b : Int} {t u v : Tok} (hr : IsRange s.heap r a b 1 t u v) (ha : -1000000 ≤ a ∧ a ≤ 1000000) (hb : -1000000 ≤ b ∧ b ≤ 1000000) {acc : List Value} {c₀ : Nat} (hS : s.heap.get? S = some (listObj acc c₀)) (hz : acc.length ≤ 1000000)
    {Q : Value → Shared → Prop} (hQ : ∀ h' tk vs c', (∀ b o, b ≠ S → s.heap.get? b = some o → h'.get? b = some o) → h'.get? S = some (listObj (acc ++ vs) c') → RepL h' vs (upInts a (b - a).toNat) → Q .none (sw s h' tk)) :
    wpAny (model prog w) A (call (.builtin "list.extend") [.ref S, .ref r]) Q E s := by
  have hSr : S ≠ r := fun e => by rw [e, hr] at hS; simp at hS
  have hSI : S ≠ s.heap.objs.size := Nat.ne_of_lt (Heap.lt_size hS)
  have hn : Builtin.Range.rangeSize a b 1 = ((b - a).toNat : Int) := by rw [rangeSize_one]; split <;> (first | exact ar119 (by assumption) | exact ar120 (by assumption))
  refine wpAny_call (codeAny_call_builtin PySem.F.slot_list_extend.plain PySem.F.entry_list_extend (PySem.F.slot_list_extend.check _ _ _ _ _ _ _ _ ⟨_, hS, rfl⟩ (PySem.F.args_list_extend_2 _ _) ?_))
  show wpAny _ A.in1 (Builtin.List.listExtendWith (.ref S) (.ref r) .none) _ _ s
  unfold Builtin.List.listExtendWith
  refine wpAny_bind (wpAny_typeOf (T := "range") ⟨_, hr, rfl⟩ ?_)
  have h1 : Builtin.List.listSameRef (.ref S) (.ref r) = false := by simp [Builtin.List.listSameRef, hSr]
  have h2 : (Value.type "range" == Value.type "list") = false := by decide
  have h3 : (Value.type "range" == Value.type "tuple") = false := by decide
  simp only [h1, h2, h3, Bool.or_false, Bool.false_eq_true, if_false]
  refine wpAny_bind (wpAny_pyIter_range hr (small_one (by exact ar377 ha) (by exact ar378 ha) (by exact ar377 hb) (by exact ar378 hb)) ?_)
  refine wpAny_bind (wpAny_holding (wpAny_hint_range (n := (b - a).toNat) (Heap.get?_push_of_some _ hr) hn (by exact ar379 ha hb) ?_))
  have hit : ∀ (h : Heap) (e : h.get? s.heap.objs.size = (s.heap.push { cls := .type "range_iterator", data := .fields #[rawInt a, rawInt (Builtin.Range.rangeSize a b 1), rawInt 1] }).get? s.heap.objs.size), IsRangeIter h s.heap.objs.size a ((b - a).toNat : Int) 1 := by
    intro h e
    show h.get? _ = _
    rw [e, ← hn]
    exact Heap.get?_push_size _ rfl
  have hS₁ := Heap.get?_push_of_some { cls := .type "range_iterator", data := .fields #[rawInt a, rawInt (Builtin.Range.rangeSize a b 1), rawInt 1] } hS
  have key : ∀ (h : Heap) (c₁ tk : Nat), IsRangeIter h s.heap.objs.size a ((b - a).toNat : Int) 1 → (∀ b o, b ≠ S → s.heap.get? b = some o → h.get? b = some o) → h.get? S = some (listObj acc c₁) →
      codeAny (model prog w) A (.builtin "list.extend.loop" ⟨[.ref S, .ref s.heap.objs.size, .none], []⟩) (fun r s' => match r with | .ok (.ret v) => Q v s' | .ok _ => False | .error e => E e s') (sw s h tk) := by
    intro h c₁ tk hi hk hS₁
    refine ext_loop hh hSI .none _ a _ acc c₁ hi hS₁ (by rw [sizeLine_eq]; exact ar380 ha hb hz) fun h' tk vs c' k' hS' r => ?_
    exact hQ h' tk vs c' (fun b o hb e => k' b o hb (Nat.ne_of_lt (Heap.lt_size e)) (hk b o hb e)) hS' r
  refine wpAny_ite_split (fun _ => ?_) (fun _ => wpAny_pure ⟨plainId_quiet PySem.F.plain_extend_loop _, key _ c₀ _ (hit _ rfl) (fun b o _ e => Heap.get?_push_of_some _ e) hS₁⟩)
  refine wpAny_bind (wpAny_rule ?_)
  refine wpAny_bind ?_
  show wpAny _ _ (updateSeq S (·.push .none) >>= fun _ => updateSeq S (·.pop)) _ _ _
  refine wpAny_bind (wpAny_updateSeq hS₁ rfl ?_ (by rw [sizeLine_eq]; simp; exact ar327 hz) (by rw [sizeLine_eq]; simp; exact ar327 hz))
  have hS₂ := Heap.get?_update_self (Obj.mapSeq (·.push Value.none)) hS₁ rfl
  refine wpAny_updateSeq hS₂ rfl ?_ (by rw [sizeLine_eq]; simp; exact ar381 hz) (by rw [sizeLine_eq]; simp; exact ar382 hz)
  have hS₃ := Heap.get?_update_self (Obj.mapSeq (·.pop)) hS₂ rfl
  have e3 : ((listObj acc c₀).mapSeq (·.push Value.none)).mapSeq (·.pop) = listObj acc (c₀ + 1 + 1) := by
    simp [Obj.mapSeq, listObj]
  rw [e3] at hS₃
  refine wpAny_pure ⟨plainId_quiet PySem.F.plain_extend_loop _, key _ _ _ (hit _ ?_) (fun b o hb e => ?_) hS₃⟩
  · exact (Heap.get?_update_other _ _ hSI).trans (Heap.get?_update_other _ _ hSI)
  · exact (Heap.get?_update_other _ _ (Ne.symm hb)).trans ((Heap.get?_update_other _ _ (Ne.symm hb)).trans (Heap.get?_push_of_some _ e))
end
end Mine
end
section
open PySem PySem.W PySem.Calls PyProof.Rows MeetsSeq
set_option maxRecDepth 100000
namespace Mine

theorem pushAs {B : Heap} {σ : St} {h h' : Heap} (I : Inv B σ h) {o : Obj} {x : AO} (k : ∀ b o', h.get? b = some o' → h'.get? b = some o') (hn : h'.get? h.objs.size = some o) (r : Imm h h' → RepO h' o x) :
    Inv B (σ.put h.objs.size x) h' ∧ Keep No σ h (σ.put h.objs.size x) h' ∧ σ h.objs.size = none := by
  have kt : Imm h h' := fun a o _ ho => k _ _ ho
  have ne : ∀ b o', h.get? b = some o' → b ≠ h.objs.size := fun b o' e q => Nat.lt_irrefl _ (q ▸ Heap.lt_size e)
  have fresh : σ h.objs.size = none := by
    cases e : σ h.objs.size with
    | none => rfl
    | some y => obtain ⟨o', ho, _⟩ := I.obj _ _ e; exact absurd rfl (ne _ _ ho)
  refine ⟨⟨fun b o' e => k _ _ (I.base b o' e), fun a y e => ?_, fun a y e => ?_⟩, ⟨fun b o' e _ _ => k b o' e, fun b o' e z => ?_, fun b o' e => ⟨o', k b o' e⟩⟩, fresh⟩
  · by_cases q : a = h.objs.size
    · subst q; rw [St.put_self] at e; cases e
      exact ⟨o, hn, r kt⟩
    · rw [St.put_ne q] at e
      obtain ⟨o', ho, r'⟩ := I.obj a y e
      exact ⟨o', k _ _ ho, r'.mono kt⟩
  · by_cases q : a = h.objs.size
    · subst q
      cases e' : B.get? h.objs.size with
      | none => rfl
      | some o' => exact absurd rfl (ne _ _ (I.base _ _ e'))
    · rw [St.put_ne q] at e; exact I.new a y e
  · rw [St.put_ne (ne _ _ e)]; exact z

section
variable {y : Sy} {n : Nat} {σ : St} {Q : V → St → Prop}
theorem C_len_list {a : Addr} {l : List V} (hl : Lst y σ a l) (hz : l.length ≤ 1000000) (h : Q (.int l.length) σ) : CallV y n σ (.builtin "len") [.val (.ref a)] Q := CallV.v1 fun A hA s I E => by
  obtain ⟨vs, hL, rl⟩ := hl.at I
  have z := rl.length
  refine call_len_list hL (by rw [List.size_toArray]; exact ar383 hz z) ⟨_, _, σ, rfl, I, .refl .., _, ?_, h⟩
  rw [List.size_toArray, z]; exact .int ..
theorem C_len_tup {l : List V} (hz : l.length ≤ 1000000) (h : Q (.int l.length) σ) : CallV y n σ (.builtin "len") [.tup l] Q := CallV.t1 fun A hA s _ vs I t rl E => by
  have z := rl.length
  refine len_tuple t.isTuple (by rw [List.size_toArray]; exact ar383 hz z) ⟨_, _, σ, rfl, I, .refl .., _, ?_, h⟩
  rw [List.size_toArray, z]; exact .int ..
theorem rng_new {h : Heap} {a b c : Int} {t u v : Tok} : RepV (h.push { cls := .type "range", data := .fields #[.int a t, .int b u, .int c v] }) (.ref h.objs.size) (.rng a b c) := .rng (IsRange.new h a b c t u v)
theorem C_range1 {b : Int} (h : Q (.rng 0 b 1) σ) : CallV y n σ (.type "range") [.int b] Q := CallV.i1 fun A hA s _ I E => by
  obtain ⟨I', K'⟩ := Keep.tup I { cls := .type "range", data := .fields #[.int 0 s.toks, .int b _, .int 1 (s.toks + 1)] }
  exact call_range_1 ⟨_, _, σ, rfl, I', K', _, rng_new, h⟩
theorem C_range2 {a b : Int} (h : Q (.rng a b 1) σ) : CallV y n σ (.type "range") [.int a, .int b] Q := CallV.i2 fun A hA s _ _ I E => by
  exact call_range_2 ⟨_, _, σ, rfl, (Keep.tup I _).1, (Keep.tup I _).2, _, rng_new, h⟩
theorem C_range3 {a b c : Int} (hc : c ≠ 0) (hp : Builtin.divisionGoesByPylong (b - a) c = false) (h : Q (.rng a b c) σ) : CallV y n σ (.type "range") [.int a, .int b, .int c] Q := CallV.i3 fun A hA s _ _ _ I E => by
  exact call_range_3 hc ⟨_, _, σ, rfl, (Keep.tup I _).1, (Keep.tup I _).2, _, rng_new, h⟩ (.inl hp)
theorem C_tuple_list {a : Addr} {l : List V} (hl : Lst y σ a l) (hz : l.length ≤ 1000000) (h : Q (.tup l) σ) : CallV y n σ (.type "tuple") [.val (.ref a)] Q := CallV.v1 fun A hA s I E => by
  obtain ⟨vs, hL, rl⟩ := hl.at I
  have z := rl.length
  refine call_tuple_list hL (fun h' k => ?_) (by rw [List.size_toArray, sizeLine_eq]; exact ar317 hz z)
  obtain ⟨I₁, K₁⟩ := grow I k
  obtain ⟨I₂, K₂⟩ := Keep.tup I₁ { cls := .type "tuple", data := .seq vs.toArray }
  exact ⟨_, _, σ, rfl, I₂, K₁.trans0 K₂, _, .tup isTup_new ((rl.keep I K₁).keep I₁ K₂), h⟩
theorem C_tuple_tup {l : List V} (h : Q (.tup l) σ) : CallV y n σ (.type "tuple") [.tup l] Q := CallV.t1 fun A hA s _ vs I t rl E =>
  call_tuple_same t.isTuple ⟨_, _, σ, rfl, I, .refl .., _, .tup t rl, h⟩
theorem C_max {a b : Int} (h : Q (.int (max a b)) σ) : CallV y n σ (.builtin "max") [.int a, .int b] Q := CallV.i2 fun A hA s _ _ I E => by
  refine max_two_ints hA.hd fun h' tk k => ?_
  obtain ⟨I₁, K₁⟩ := grow I k
  refine ⟨_, _, σ, rfl, I₁, K₁, _, ?_, h⟩
  split
  · rw [show max a b = b from by exact ar384 (by assumption)]; exact .int ..
  · rw [show max a b = a from by exact ar385 (by assumption)]; exact .int ..
theorem C_min {a b : Int} (h : Q (.int (min a b)) σ) : CallV y n σ (.builtin "min") [.int a, .int b] Q := CallV.i2 fun A hA s _ _ I E => by
  refine min_two_ints hA.hd fun h' tk k => ?_
  obtain ⟨I₁, K₁⟩ := grow I k
  refine ⟨_, _, σ, rfl, I₁, K₁, _, ?_, h⟩
  split
  · rw [show min a b = b from by exact ar386 (by assumption)]; exact .int ..
  · rw [show min a b = a from by exact ar387 (by assumption)]; exact .int ..
noncomputable def intVs (l : List Int) : List V := l.map .int
noncomputable def boolVs (l : List Bool) : List V := l.map fun b => .val (.bool b)
theorem RepL.toInts {h : Heap} {vs : List Value} {l : List Int} (r : RepL h vs (intVs l)) : IntsAre vs l := by
  induction l generalizing vs with
  | nil => rw [RepL.nil_inv r]; exact .nil
  | cons i l ih =>
    obtain ⟨v, us, e, a, b⟩ := RepL.cons_inv r
    obtain ⟨t, e'⟩ := a.int_inv
    rw [e, e']; exact .cons _ _ (ih b)
theorem RepL.toBools {h : Heap} {vs : List Value} {l : List Bool} (r : RepL h vs (boolVs l)) : LSm.BoolsAre vs l := by
  induction l generalizing vs with
  | nil => rw [RepL.nil_inv r]; exact .nil
  | cons i l ih =>
    obtain ⟨v, us, e, a, b⟩ := RepL.cons_inv r
    rw [e, a.val_inv]; exact .cons _ (ih b)
theorem C_sum {a : Addr} {l : List Int} (hl : Lst y σ a (intVs l)) (h : Q (.int l.sum) σ) : CallV y n σ (.builtin "sum") [.val (.ref a)] Q := CallV.v1 fun A hA s I E => by
  obtain ⟨vs, hL, rl⟩ := hl.at I
  obtain ⟨xs, hx⟩ := rl.toInts.allInts.items
  have hi := rl.toInts
  refine sum_intListG hA.hd (hx ▸ hL) fun h' tk t' hk => ?_
  have e1 : l = xs.toList.map (·.1) := by
    rw [← nums_intItems, ← hx]
    exact (show numsOf vs.toArray.toList = l from hi.numsOf).symm
  have e2 : preSum (numAt xs) xs.size = l.sum := by
    rw [preSum_eq, List.take_of_length_le (by simp), e1]
  rw [e2]
  obtain ⟨I₁, K₁⟩ := grow I hk
  exact ⟨_, _, σ, rfl, I₁, K₁, _, .int .., h⟩
theorem C_any {a : Addr} {l : List Bool} (hl : Lst y σ a (boolVs l)) (h : Q (.val (.bool (l.any id))) σ) : CallV y n σ (.builtin "any") [.val (.ref a)] Q := CallV.v1 fun A hA s I E => by
  obtain ⟨vs, hL, rl⟩ := hl.at I
  have hb := rl.toBools
  have hlt : a < s.heap.objs.size := by obtain ⟨_, e, _⟩ := hL; exact Heap.lt_size e
  refine call_any_walk (wpAny_pyIter_list hL ?_)
  refine ⟨s.heap.objs.size, [s.heap.objs.size, a], [s.heap.objs.size], vs.toArray.size, _, _, fun i => (l[i]?).getD false, rfl, Walks.list (A := A.in1) hA.hd _ a (Nat.ne_of_lt hlt) vs.toArray,
    ⟨⟨_, Heap.get?_push_size _ rfl, rfl, rfl⟩, hL.push _⟩, fun i v s' Q' E' hP hQ => ?_, fun h' tk hk => ?_⟩
  · obtain ⟨b, e, rfl⟩ := hb.get i v (by simpa using hP)
    simp only [e, Option.getD_some] at hQ
    exact wpAny_truthy_bool hQ
  · have e : ((List.range vs.toArray.size).any fun i => (l[i]?).getD false) = l.any id := by
      rw [List.size_toArray, hb.length]; exact LSm.range_any l
    rw [e]
    obtain ⟨I₁, K₁⟩ := grow I (LSm.kept_iter hk)
    exact ⟨_, _, σ, rfl, I₁, K₁, _, .val _, h⟩
theorem C_list_tup {l : List V} (hz : l.length ≤ 1000000) (h : ∀ a, σ a = none → Q (.val (.ref a)) (σ.put a (.list l))) : CallV y n σ (.type "list") [.tup l] Q := CallV.t1 fun A hA s b vs I t rl E => by
  obtain ⟨k, e⟩ := t
  have z := rl.length
  refine call_list_seq b (.inr rfl) e rfl rfl (fun h' c' hk hn => ?_) (by rw [List.size_toArray, sizeLine_eq]; exact ar317 hz z)
  obtain ⟨I₁, K₁, f⟩ := pushAs (x := .list l) I hk hn fun k => ⟨vs, c', rfl, rl.mono k⟩
  exact ⟨_, _, _, rfl, I₁, K₁, _, .val _, h _ f⟩

theorem noDict_list {h : Heap} {a : Addr} {vs : List Value} {k : Nat} (e : h.get? a = some (listObj vs k)) : h.NoDictAt (.ref a) := ⟨_, e, rfl⟩
theorem list_obj {B : Heap} {h : Heap} {a : Addr} {l : List V} (I : Inv B σ h) (e : σ a = some (.list l)) : ∃ vs k, h.get? a = some (listObj vs k) ∧ RepL h vs l := by
  obtain ⟨o, ho, vs, k, rfl, r⟩ := I.obj _ _ e
  exact ⟨vs, k, ho, r⟩
theorem G_list {a : Addr} {l : List V} {name : Str} {id : String} (e : σ a = some (.list l)) (slot : Slot "list" name id) (hty : typeOf (.builtin id) = pure (.type "method_descriptor")) : GetM y σ (.val (.ref a)) name (.builtin id) [.val (.ref a)] :=
  fun A s v pl E Q I r hq => by
    cases r
    obtain ⟨vs, k, ho, rl⟩ := list_obj I e
    exact getMethod_list_of slot hty ⟨_, ho, rfl, k, rfl⟩ (noDict_list ho) (hq _ (.cons (.val _) .nil))
theorem L_append {a : Addr} {l : List V} {x : V} (e : σ a = some (.list l)) (hz : l.length ≤ 1000000) (h : Q (.val .none) (σ.put a (.list (l ++ [x])))) : CallV y n σ (.builtin "list.append") [.val (.ref a), x] Q := CallV.vx fun A hA s v I r2 E => by
  obtain ⟨vs, k, ho, rl⟩ := list_obj I e
  have z := rl.length
  refine call_meets PySem.F.slot_list_append ⟨_, ho, rfl⟩ PySem.F.entry_list_append (PySem.F.args_list_append_2 _ _) (list_append a vs.toArray k _ (by rw [List.size_toArray, sizeLine_eq]; exact ar317 hz z)) ⟨ho, ?_⟩
  have hS := Heap.get?_update_self (Obj.mapSeq (·.push v)) ho rfl
  have ee : (listObj vs k).mapSeq (·.push v) = listObj (vs ++ [v]) (k + 1) := by simp [Obj.mapSeq, listObj]
  obtain ⟨I₁, K₁⟩ := change (x' := .list (l ++ [x])) I e (fun b o hb eb => (Heap.get?_update_other _ _ (Ne.symm hb)).trans eb) hS
    (fun k => ⟨vs ++ [v], _, ee, (rl.mono k).append (.cons (r2.mono k) .nil)⟩)
  exact ⟨_, _, _, rfl, I₁, K₁, _, .val _, h⟩
theorem L_extend {a b : Addr} {l k : List V} (e : σ a = some (.list l)) (eb : σ b = some (.list k)) (hz : l.length + k.length ≤ 1000000) (h : Q (.val .none) (σ.put a (.list (l ++ k)))) : CallV y n σ (.builtin "list.extend") [.val (.ref a), .val (.ref b)] Q := CallV.v2 fun A hA s I E => by
  obtain ⟨vs, c, ho, rl⟩ := list_obj I e
  obtain ⟨ws, d, ho', rl'⟩ := list_obj I eb
  have z := rl.length
  have z' := rl'.length
  refine call_meets PySem.F.slot_list_extend ⟨_, ho, rfl⟩ PySem.F.entry_list_extend (PySem.F.args_list_extend_2 _ _) (AutoSeq1.list_extend_list_list_0 a vs.toArray c b ws.toArray d ?_ (by rw [List.size_toArray, sizeLine_eq]; exact ar388 hz z) (by rw [List.size_toArray, List.size_toArray, sizeLine_eq]; exact ar389 hz z z')) ⟨ho, ho', ?_⟩
  · refine extend_door ?_
    rw [List.size_toArray, List.size_toArray, sizeLine_eq]; exact ar390 hz z z'
  · have hS := Heap.get?_update_self (Obj.mapSeq (· ++ ws.toArray)) ho rfl
    have ee : (listObj vs c).mapSeq (· ++ ws.toArray) = listObj (vs ++ ws) (if (vs.toArray ++ ws.toArray).size == vs.toArray.size then c else c + 1) := by
      simp [Obj.mapSeq, listObj]
    obtain ⟨I₁, K₁⟩ := change (x' := .list (l ++ k)) I e (fun b o hb eb => (Heap.get?_update_other _ _ (Ne.symm hb)).trans eb) hS
      (fun k => ⟨vs ++ ws, _, ee, (rl.mono k).append (rl'.mono k)⟩)
    exact ⟨_, _, _, rfl, I₁, K₁, _, .val _, h⟩
theorem L_extend_rng {a : Addr} {l : List V} {x z : Int} (e : σ a = some (.list l)) (hz : l.length ≤ 1000000) (hx : -1000000 ≤ x ∧ x ≤ 1000000) (hx' : -1000000 ≤ z ∧ z ≤ 1000000) (h : Q (.val .none) (σ.put a (.list (l ++ upInts x (z - x).toNat)))) : CallV y n σ (.builtin "list.extend") [.val (.ref a), .rng x z 1] Q := CallV.vx fun A hA s _ I r2 E => by
  obtain ⟨r, t₀, u₀, v₀, er, hr⟩ := r2.rng_inv
  rw [er]
  obtain ⟨vs, c, ho, rl⟩ := list_obj I e
  have zz := rl.length
  refine ext_range hA.hd hr hx hx' ho (by exact ar326 hz zz) fun h' tk ws c' k hS rw_ => ?_
  obtain ⟨I₁, K₁⟩ := change (x' := .list (l ++ upInts x (z - x).toNat)) I e k hS (fun k => ⟨vs ++ ws, _, rfl, (rl.mono k).append rw_⟩)
  exact ⟨_, _, _, rfl, I₁, K₁, _, .val _, h⟩
theorem L_pop {a : Addr} {l : List V} {x : V} (e : σ a = some (.list (l ++ [x]))) (hz : l.length ≤ 1000000) (h : Q x (σ.put a (.list l))) : CallV y n σ (.builtin "list.pop") [.val (.ref a)] Q := CallV.v1 fun A hA s I E => by
  obtain ⟨vs, c, ho, rl⟩ := list_obj I e
  have z := rl.length
  rw [List.length_append, List.length_singleton] at z
  obtain ⟨v, ev, rv⟩ := rl.get (j := l.length) (u := x) (by simp)
  refine call_meets PySem.F.slot_list_pop ⟨_, ho, rfl⟩ PySem.F.entry_list_pop (PySem.F.args_list_pop_1 _) (list_pop_last a vs.toArray c v (by rw [List.size_toArray, z]; simpa using ev) (by rw [List.size_toArray, sizeLine_eq]; exact ar391 hz z)) ⟨ho, ?_⟩
  have hS := Heap.get?_update_self (Obj.mapSeq fun xs => xs.eraseIdxIfInBounds (vs.toArray.size - 1)) ho rfl
  have et : vs.toArray.eraseIdxIfInBounds (vs.toArray.size - 1) = (vs.take l.length).toArray := by
    rw [Array.eraseIdxIfInBounds, dif_pos (by rw [List.size_toArray]; exact ar392 z)]
    simp only [List.size_toArray, List.eraseIdx_toArray, z]
    congr 1
    rw [show l.length + 1 - 1 = l.length from rfl, List.eraseIdx_eq_take_drop_succ, List.drop_of_length_le (by exact ar393 z), List.append_nil]
  have rt := rl.take l.length
  rw [List.take_left] at rt
  have ee : ∃ c', (listObj vs c).mapSeq (fun xs => xs.eraseIdxIfInBounds (vs.toArray.size - 1)) = listObj (vs.take l.length) c' := by
    refine ⟨if (vs.take l.length).toArray.size == vs.toArray.size then c else c + 1, ?_⟩
    have : ∀ zs : Array Value, zs = (vs.take l.length).toArray → ({ cls := .type "list", data := .seq zs (if zs.size == vs.toArray.size then c else c + 1) } : Obj) = listObj (vs.take l.length) (if (vs.take l.length).toArray.size == vs.toArray.size then c else c + 1) := by rintro _ rfl; rfl
    exact this _ et
  obtain ⟨c', ee⟩ := ee
  obtain ⟨I₁, K₁⟩ := change (x' := .list l) I e (fun b o hb eb => (Heap.get?_update_other _ _ (Ne.symm hb)).trans eb) hS
    (fun k => ⟨vs.take l.length, c', ee, rt.mono k⟩)
  exact ⟨_, _, _, rfl, I₁, K₁, _, rv.keep I K₁, h⟩
end
end Mine
end
section
open PySem PySem.W PySem.Calls PyProof.Rows
set_option maxRecDepth 100000
namespace Mine

noncomputable def upd (ρ : Str → Option V) (x : Str) (v : V) : Str → Option V := fun z => if z = x then some v else ρ z
@[simp] theorem upd_self (ρ : Str → Option V) (x : Str) (v : V) : upd ρ x v x = some v := by simp [upd]
theorem upd_ne {ρ : Str → Option V} {x z : Str} {v : V} (h : z ≠ x) : upd ρ x v z = ρ z := by simp [upd, h]
noncomputable def Own (env : Env) (W : Str → Prop) : Addr → Prop := fun a => a = env.locals ∨ ∃ x, W x ∧ env.cells.lookup x = some a

section
variable {B : Heap} {env : Env} {ρ : Str → Option V} {σ : St} {h : Heap} {W : Str → Prop}
theorem FrOK.notCell (F : FrOK B env ρ σ h) {x : Str} {c : Addr} (e : env.cells.lookup x = some c) : c ≠ env.locals := by
  rintro rfl
  obtain ⟨m, ⟨o, es, ep, ho, hd, _⟩, _⟩ := F.ns
  obtain ⟨_, _, v, ⟨o', ho', hd'⟩, _⟩ := F.cell x _ e
  rw [ho] at ho'; cases ho'
  rw [hd] at hd'; cases hd'
theorem FrOK.noTup (F : FrOK B env ρ σ h) : NoTup (Own env W) h := by
  intro a o m ho q
  have nodict : ∀ es ep, o.data ≠ .dict es ep := fun es ep e => by
    rcases m with ⟨_, vs, n, e'⟩ | ⟨_, vs, e'⟩ <;> rw [e] at e' <;> cases e'
  have nocell : ∀ v, o.data ≠ .cell v := fun v e => by
    rcases m with ⟨_, vs, n, e'⟩ | ⟨_, vs, e'⟩ <;> rw [e] at e' <;> cases e'
  rcases q with rfl | ⟨x, _, hx⟩
  · obtain ⟨m', ⟨o', es, ep, ho', hd, _⟩, _⟩ := F.ns
    rw [ho] at ho'; cases ho'
    exact nodict _ _ hd
  · obtain ⟨_, _, v, ⟨o', ho', hd⟩, _⟩ := F.cell x _ hx
    rw [ho] at ho'; cases ho'
    exact nocell _ hd
theorem FrOK.own (F : FrOK B env ρ σ h) {a : Addr} (q : Own env W a) : (∃ o, h.get? a = some o) ∧ B.get? a = none ∧ σ a = none := by
  rcases q with rfl | ⟨x, _, hx⟩
  · obtain ⟨m', ⟨o', es, ep, ho', hd, _⟩, _⟩ := F.ns
    exact ⟨⟨_, ho'⟩, F.locB, F.locS⟩
  · obtain ⟨a1, a2, v, ⟨o', ho', hd⟩, _⟩ := F.cell x _ hx
    exact ⟨⟨_, ho'⟩, a1, a2⟩
end

section
variable {y : Sy} {n : Nat} {env : Env} {W : Str → Prop} {ρ : Str → Option V} {σ : St}

theorem store_local {A : Around} {s : Shared} {x : Str} {v : Value} {u : V} (I : Inv y.B σ s.heap) (F : FrOK y.B env ρ σ s.heap) (hk : env.kindOf x = some .local) (r : RepV s.heap v u) :
    Run y A (Own env W) (storeName env x v) s σ fun _ h' σ' => σ' = σ ∧ FrOK y.B env (upd ρ x u) σ h' := fun E => by
  obtain ⟨m, hm, q⟩ := F.ns
  refine wpAny_storeName_local hk hm (fun h' hn' hs' => ?_) (by rw [F.kind]; rfl)
  have kk : ∀ b o, ¬ Own env W b → s.heap.get? b = some o → h'.get? b = some o := fun b o z e => hs'.extBut b o (fun e => z (.inl e)) e
  have kl : ∃ o', h'.get? env.locals = some o' := by obtain ⟨o, _, _, ho, _⟩ := hn'; exact ⟨o, ho⟩
  obtain ⟨I', K'⟩ := growBut I F.noTup (fun a q => (F.own q).2.1) (fun a q => (F.own q).2.2) kk fun b o z e => by
    by_cases hb : b = env.locals
    · rw [hb]; exact kl
    · exact ⟨o, hs'.extBut b o hb e⟩
  have im := K'.imm I F.noTup
  refine ⟨h', _, σ, rfl, I', K', rfl, F.kind, F.glob, F.blt, F.locB, F.locS, ⟨_, hn', fun z w hz e => ?_⟩, fun z c e => ?_, F.has, F.apart, F.kinds⟩
  · by_cases hzx : z = x
    · subst hzx
      rw [upd_self] at e; cases e
      exact ⟨v, by simp, r.mono im⟩
    · rw [upd_ne hzx] at e
      obtain ⟨w', a, b⟩ := q z w hz e
      exact ⟨w', by simp only [hzx, if_false]; exact a, b.mono im⟩
  · obtain ⟨a, b, v', ⟨o, ho, hd⟩, q'⟩ := F.cell z c e
    refine ⟨a, b, v', ⟨o, hs'.extBut c o (F.notCell e) ho, hd⟩, fun u' e' => ?_⟩
    have hzx : z ≠ x := by rintro rfl; exact F.kinds _ _ e hk
    rw [upd_ne hzx] at e'
    obtain ⟨w', a', b'⟩ := q' u' e'
    exact ⟨w', a', b'.mono im⟩
theorem store_cell {A : Around} {s : Shared} {x : Str} {v : Value} {u : V} (I : Inv y.B σ s.heap) (F : FrOK y.B env ρ σ s.heap) (hk : env.kindOf x = some .cell) (hw : W x) (r : RepV s.heap v u) :
    Run y A (Own env W) (storeName env x v) s σ fun _ h' σ' => σ' = σ ∧ FrOK y.B env (upd ρ x u) σ h' := fun E => by
  obtain ⟨c, hc⟩ := F.has x (.inl hk)
  obtain ⟨_, _, v₀, hv₀, _⟩ := F.cell x c hc
  refine wpAny_storeName_cell F.kind hk hc hv₀ fun h' hn' hs' => ?_
  have kk : ∀ b o, ¬ Own env W b → s.heap.get? b = some o → h'.get? b = some o := fun b o z e => hs'.extBut b o (by rintro rfl; exact z (.inr ⟨x, hw, hc⟩)) e
  have kl : ∃ o', h'.get? c = some o' := by obtain ⟨o, ho, _⟩ := hn'; exact ⟨o, ho⟩
  obtain ⟨I', K'⟩ := growBut I F.noTup (fun a q => (F.own q).2.1) (fun a q => (F.own q).2.2) kk fun b o z e => by
    by_cases hb : b = c
    · rw [hb]; exact kl
    · exact ⟨o, hs'.extBut b o hb e⟩
  have im := K'.imm I F.noTup
  obtain ⟨m, hm, q⟩ := F.ns
  refine ⟨h', _, σ, rfl, I', K', rfl, F.kind, F.glob, F.blt, F.locB, F.locS, ⟨m, hm.at' fun o e => hs'.extBut _ o (Ne.symm (F.notCell hc)) e, fun z w hz e => ?_⟩, fun z c' e => ?_, F.has, F.apart, F.kinds⟩
  · have hzx : z ≠ x := by rintro rfl; rw [hk] at hz; cases hz
    rw [upd_ne hzx] at e
    obtain ⟨w', a, b⟩ := q z w hz e
    exact ⟨w', a, b.mono im⟩
  · obtain ⟨a, b, v', ⟨o, ho, hd⟩, q'⟩ := F.cell z c' e
    by_cases hzx : z = x
    · subst hzx
      rw [hc] at e; cases e
      exact ⟨a, b, some v, hn', fun u' e' => by rw [upd_self] at e'; cases e'; exact ⟨v, rfl, r.mono im⟩⟩
    · have hcc : c' ≠ c := by rintro rfl; exact hzx (F.apart _ _ _ e hc)
      refine ⟨a, b, v', ⟨o, hs'.extBut c' o hcc ho, hd⟩, fun u' e' => ?_⟩
      rw [upd_ne hzx] at e'
      obtain ⟨w', a', b'⟩ := q' u' e'
      exact ⟨w', a', b'.mono im⟩

inductive QR (B : Heap) (env : Env) (R : (Str → Option V) → St → Prop) (_u : Unit) (h' : Heap) (σ' : St) : Prop
  | mk (ρ' : Str → Option V) (f : FrOK B env ρ' σ' h') (q : R ρ' σ')
noncomputable def AT (y : Sy) (n : Nat) (env : Env) (W : Str → Prop) (t : Expr) (x : V) (ρ : Str → Option V) (σ : St) (R : (Str → Option V) → St → Prop) : Prop :=
  ∀ A, Room A n → ∀ s v, Inv y.B σ s.heap → FrOK y.B env ρ σ s.heap → RepV s.heap v x → Run y A (Own env W) (assign t env v) s σ (QR y.B env R)
theorem T_local {x : Str} {pos : Pos} {u : V} {R : (Str → Option V) → St → Prop} (hk : env.kindOf x = some .local) (h : R (upd ρ x u) σ) : AT y n env W (.Name x pos) u ρ σ R :=
  fun A hA s v I F r E => wpAny_assign_Name ((store_local (W := W) I F hk r).use fun _ h' tk σ' I' K' ⟨e, F'⟩ => by subst e; exact ⟨h', tk, _, rfl, I', K', upd ρ x u, F', h⟩)
theorem T_cell {x : Str} {pos : Pos} {u : V} {R : (Str → Option V) → St → Prop} (hk : env.kindOf x = some .cell) (hw : W x) (h : R (upd ρ x u) σ) : AT y n env W (.Name x pos) u ρ σ R :=
  fun A hA s v I F r E => wpAny_assign_Name ((store_cell (W := W) I F hk hw r).use fun _ h' tk σ' I' K' ⟨e, F'⟩ => by subst e; exact ⟨h', tk, _, rfl, I', K', upd ρ x u, F', h⟩)
noncomputable def ATs (y : Sy) (n : Nat) (env : Env) (W : Str → Prop) : List Expr → List V → (Str → Option V) → St → ((Str → Option V) → St → Prop) → Prop
  | [], [], ρ, σ, R => R ρ σ
  | e :: es, x :: xs, ρ, σ, R => AT y n env W e x ρ σ fun ρ' σ' => ATs y n env W es xs ρ' σ' R
  | _, _, _, _, _ => False
theorem assigns_run {A : Around} (hA : Room A n) : ∀ (es : List Expr) (xs : List V) (vs : List Value) {ρ : Str → Option V} {σ : St} {R : (Str → Option V) → St → Prop} {s : Shared}, (es.all plainE = true) → ATs y n env W es xs ρ σ R → Inv y.B σ s.heap → FrOK y.B env ρ σ s.heap → RepL s.heap vs xs →
    Run y A (Own env W) (assignInOrder ((assignEach es env).map (·.2)) vs) s σ (QR y.B env R) := by
  intro es
  induction es with
  | nil =>
    intro xs vs ρ σ R s _ h I F r E
    cases xs with
    | nil =>
      rw [r.nil_inv]
      exact assignInOrder_nil ⟨_, _, σ, rfl, I, .refl .., ρ, F, h⟩
    | cons x xs => exact h.elim
  | cons e es ih =>
    intro xs vs ρ σ R s hp h I F r E
    cases xs with
    | nil => exact h.elim
    | cons x xs =>
      obtain ⟨v, us, ev, r, rs⟩ := r.cons_inv
      rw [ev]
      rw [List.all_cons, Bool.and_eq_true] at hp
      have e1 : assignEach (e :: es) env = (false, assign e env) :: assignEach es env := by
        have := hp.1
        cases e <;> first | rfl | cases this
      rw [e1, List.map_cons]
      refine assignInOrder_cons ((h A hA s _ I F r).use fun _ h₁ tk σ₁ I₁ K₁ ⟨ρ₁, F₁, q⟩ => ?_)
      exact (ih xs _ hp.2 q I₁ F₁ (rs.mono (K₁.imm I F.noTup))).fin K₁
theorem assignEach_plain : ∀ (es : List Expr), es.all plainE = true → (assignEach es env).length = es.length ∧ (assignEach es env).findIdx? (·.1) = none
  | [], _ => ⟨rfl, rfl⟩
  | e :: es, hp => by
    rw [List.all_cons, Bool.and_eq_true] at hp
    have e1 : assignEach (e :: es) env = (false, assign e env) :: assignEach es env := by
      have := hp.1
      cases e <;> first | rfl | cases this
    obtain ⟨a, b⟩ := assignEach_plain es hp.2
    rw [e1]
    exact ⟨by simp [a], by simp [List.findIdx?_cons, b]⟩
theorem T_tup {es : List Expr} {k : Nat} {pos : Pos} {xs : List V} {R : (Str → Option V) → St → Prop} (h : ATs y n env W es xs ρ σ R) (hl : es.length = xs.length := by rfl) (hp : es.all plainE = true := by rfl) : AT y n env W (.Tuple es k pos) (.tup xs) ρ σ R :=
  fun A hA s v I F r E => by
    cases r with
    | tup t rl =>
      obtain ⟨a, b⟩ := assignEach_plain (env := env) es hp
      refine wpAny_assign_Tuple hA.hd t.isTuple (by rw [a, List.size_toArray, rl.length, hl]) b fun h' he => ?_
      have nw : y.B.get? s.heap.objs.size = none ∧ σ s.heap.objs.size = none ∧ s.heap.get? s.heap.objs.size = none := by
        have g : s.heap.get? s.heap.objs.size = none := by
          cases e : s.heap.get? s.heap.objs.size with
          | none => rfl
          | some o => exact absurd (Heap.lt_size e) (Nat.lt_irrefl _)
        refine ⟨?_, ?_, g⟩
        · cases e : y.B.get? s.heap.objs.size with
          | none => rfl
          | some o => rw [I.base _ _ e] at g; cases g
        · cases e : σ s.heap.objs.size with
          | none => rfl
          | some o => obtain ⟨o', ho, _⟩ := I.obj _ _ e; rw [ho] at g; cases g
      obtain ⟨I₁, K₁⟩ := grow I (h' := h') fun b o e => he b o (by rintro rfl; rw [nw.2.2] at e; cases e) e
      exact (assigns_run hA es xs _ hp h I₁ (F.keep I K₁) (by simpa using rl.keep I K₁)).fin K₁.w

noncomputable def steps (a c : Int) : Nat → List V
  | 0 => []
  | k + 1 => .int a :: steps (a + c) c k
theorem steps_get (a c : Int) : ∀ (k i : Nat), i < k → (steps a c k)[i]? = some (.int (a + i * c))
  | k + 1, 0, _ => by simp [steps]
  | k + 1, i + 1, h => by
    rw [steps, List.getElem?_cons_succ, steps_get (a + c) c k i (by exact ar394 h)]
    congr 2; push_cast; rw [Int.add_mul, Int.one_mul]; exact ar395
theorem steps_len (a c : Int) (k : Nat) : (steps a c k).length = k := by
  induction k generalizing a with
  | zero => rfl
  | succ k ih => simp [steps, ih]
noncomputable def IterOf (y : Sy) (σ : St) : V → List V → Prop
  | .val (.ref a), xs => Lst y σ a xs
  | .tup l, xs => xs = l
  | .rng a b c, xs => Builtin.Range.small a b c = true ∧ ∃ k : Nat, Builtin.Range.rangeSize a b c = k ∧ xs = steps a c k
  | _, _ => False
noncomputable def ItAt (h : Heap) (I : Addr) (v : Value) (i : Nat) : V → Prop
  | .val (.ref a) => v = .ref a ∧ h.IsListIter I a i
  | .tup _ => ∃ a, v = .ref a ∧ h.IsTupleIter I a i
  | .rng a b c => IsRangeIter h I (a + i * c) (Builtin.Range.rangeSize a b c - i) c
  | _ => False
theorem ItAt.at' {h h' : Heap} {I : Addr} {v : Value} {i : Nat} {x : V} (t : ItAt h I v i x) (k : ∀ o, h.get? I = some o → h'.get? I = some o) : ItAt h' I v i x := by
  unfold ItAt at t ⊢
  split at t
  · obtain ⟨e, o, ho, r⟩ := t; exact ⟨e, o, k o ho, r⟩
  · obtain ⟨a, e, o, ho, r⟩ := t; exact ⟨a, e, o, k o ho, r⟩
  · exact k _ t
  · exact t.elim
theorem ItAt.notIm {h : Heap} {I : Addr} {v : Value} {i : Nat} {x : V} (t : ItAt h I v i x) : ∃ o, h.get? I = some o ∧ ¬ Im o := by
  have no : ∀ o : Obj, o.cls ≠ .type "tuple" → o.cls ≠ .type "range" → ¬ Im o := fun o a b m => by rcases m with ⟨e, _⟩ | ⟨e, _⟩ <;> contradiction
  unfold ItAt at t
  split at t
  · obtain ⟨e, o, ho, hc, r⟩ := t; exact ⟨o, ho, no o (by rw [hc]; decide) (by rw [hc]; decide)⟩
  · obtain ⟨a, e, o, ho, hc, r⟩ := t; exact ⟨o, ho, no o (by rw [hc]; decide) (by rw [hc]; decide)⟩
  · exact ⟨_, t, no _ (by show Value.type _ ≠ _; decide) (by show Value.type _ ≠ _; decide)⟩
  · exact t.elim
theorem iter_start {A : Around} {E : Value → Shared → Prop} {s : Shared} {v : Value} {x : V} {xs : List V} {Q : Value → Shared → Prop} (I : Inv y.B σ s.heap) (r : RepV s.heap v x) (hx : IterOf y σ x xs)
    (h : ∀ o, ItAt (s.heap.push o) s.heap.objs.size v 0 x → Q (.ref s.heap.objs.size) { s with heap := s.heap.push o }) : wpAny (model y.prog y.w) A (pyIter v) Q E s := by
  unfold IterOf at hx
  split at hx
  · cases r
    obtain ⟨vs, hL, rl⟩ := hx.at I
    exact wpAny_pyIter_list hL (h _ ⟨rfl, _, Heap.get?_push_size _ rfl, rfl, rfl⟩)
  · cases r with
    | tup t rl => exact wpAny_pyIter_tuple t.isTuple (h _ ⟨_, rfl, _, Heap.get?_push_size _ rfl, rfl, rfl⟩)
  · obtain ⟨hs, k, hk, rfl⟩ := hx
    cases r with
    | rng t =>
      refine wpAny_pyIter_range t hs (h _ ?_)
      rename_i a b c _ _ _ _
      show IsRangeIter _ _ (a + ((0 : Nat) : Int) * c) (Builtin.Range.rangeSize a b c - ((0 : Nat) : Int)) c
      rw [show a + ((0 : Nat) : Int) * c = a from by simp, show Builtin.Range.rangeSize a b c - ((0 : Nat) : Int) = Builtin.Range.rangeSize a b c from by simp]
      exact Heap.get?_push_size _ rfl
  · exact hx.elim
theorem iter_next {A : Around} (hA : A.handled = none) {E : Value → Shared → Prop} {s : Shared} {v : Value} {x : V} {xs : List V} {J : Addr} {i : Nat} {Q : Option Value → Shared → Prop} (I : Inv y.B σ s.heap) (r : RepV s.heap v x) (hx : IterOf y σ x xs) (t : ItAt s.heap J v i x) (hi : i ≤ xs.length)
    (h1 : ∀ z u h' tk, xs[i]? = some z → RepV h' u z → ItAt h' J v (i + 1) x → (∀ b o, b ≠ J → s.heap.get? b = some o → h'.get? b = some o) → Q (some u) (sw s h' tk))
    (h2 : ∀ h' tk, i = xs.length → (∀ b o, b ≠ J → s.heap.get? b = some o → h'.get? b = some o) → Q none (sw s h' tk)) : wpAny (model y.prog y.w) A (pyNext (.ref J)) Q E s := by
  have nIm : ∀ b o, Im o → s.heap.get? b = some o → b ≠ J := fun b o m e q => by
    obtain ⟨o', ho', z⟩ := t.notIm
    rw [q, ho'] at e; cases e; exact z m
  unfold IterOf at hx
  split at hx
  · cases r
    obtain ⟨vs, hL, rl⟩ := hx.at I
    obtain ⟨_, t⟩ := t
    have zl := rl.length
    by_cases hlt : i < xs.length
    · obtain ⟨u, eu, ru⟩ := rl.get (List.getElem?_eq_getElem hlt)
      exact wpAny_pyNext_list_item t hL (by simpa using eu) fun h' t' hs => h1 xs[i] u h' s.toks (List.getElem?_eq_getElem hlt) (ru.mono fun b o m e => hs.extBut b o (nIm b o m e) e) ⟨rfl, t'⟩ fun b o hb e => hs.extBut b o hb e
    · exact wpAny_pyNext_list_end hA t hL (by simp; exact ar3 zl hlt) fun h' he => h2 h' s.toks (by exact ar359 hi hlt) fun b o hb e => he b o hb e
  · subst hx
    cases r with
    | tup p rl =>
      obtain ⟨a', ea, t⟩ := t
      cases ea
      have zl := rl.length
      by_cases hlt : i < xs.length
      · obtain ⟨u, eu, ru⟩ := rl.get (List.getElem?_eq_getElem hlt)
        exact wpAny_pyNext_tuple_item t p.isTuple (by simpa using eu) fun h' t' hs => h1 xs[i] u h' s.toks (List.getElem?_eq_getElem hlt) (ru.mono fun b o m e => hs.extBut b o (nIm b o m e) e) ⟨_, rfl, t'⟩ fun b o hb e => hs.extBut b o hb e
      · exact wpAny_pyNext_tuple_end hA t p.isTuple (by simp; exact ar3 zl hlt) fun h' he => h2 h' s.toks (by exact ar359 hi hlt) fun b o hb e => he b o hb e
  · obtain ⟨hs, k, hk, rfl⟩ := hx
    rw [steps_len] at hi h2
    rename_i a b c
    have t : IsRangeIter s.heap J (a + i * c) (Builtin.Range.rangeSize a b c - i) c := t
    by_cases hlt : i < k
    · refine wpAny_pyNext_range_item t (by exact ar396 hk hlt) fun h' t' hs => h1 _ _ h' _ (steps_get a c k i hlt) (.int _ _) ?_ fun b o hb e => hs.extBut b o hb e
      show IsRangeIter h' J (a + ((i + 1 : Nat) : Int) * c) (Builtin.Range.rangeSize a b c - ((i + 1 : Nat) : Int)) c
      rw [show a + ((i + 1 : Nat) : Int) * c = a + i * c + c from by push_cast; rw [Int.add_mul, Int.one_mul]; exact ar397, show Builtin.Range.rangeSize a b c - ((i + 1 : Nat) : Int) = Builtin.Range.rangeSize a b c - i - 1 from by push_cast; exact ar398]
      exact t'
    · exact wpAny_pyNext_range_end hA t (by exact ar399 hk hlt) fun h' he => h2 h' s.toks (by exact ar359 hi hlt) fun b o hb e => he b o hb e
  · exact hx.elim
end
end Mine
end
section
open PySem PySem.W PySem.Calls PyProof.Rows
set_option maxRecDepth 100000
set_option linter.unusedVariables false
namespace Mine

inductive Fl where
  | next
  | brk
  | cont
  | ret (x : V)
noncomputable def FlOK (h : Heap) : Flow → Fl → Prop
  | .next, .next => True
  | .brk, .brk => True
  | .cont, .cont => True
  | .ret v, .ret x => RepV h v x
  | _, _ => False
theorem FlOK.mono {h h' : Heap} {f : Flow} {g : Fl} (x : FlOK h f g) (k : Imm h h') : FlOK h' f g := by
  cases f <;> cases g <;> first | exact x | exact RepV.mono x k
noncomputable abbrev Env1 := Str → Option V
inductive QF (B : Heap) (env : Env) (Q : Fl → Env1 → St → Prop) (f : Flow) (h' : Heap) (σ' : St) : Prop
  | mk (g : Fl) (ρ' : Env1) (a : FlOK h' f g) (b : FrOK B env ρ' σ' h') (q : Q g ρ' σ')
section
variable (y : Sy) (n : Nat) (env : Env) (W : Str → Prop)
noncomputable def EX (st : Stmt) (ρ : Env1) (σ : St) (Q : Fl → Env1 → St → Prop) : Prop :=
  ∀ A, Room A n → ∀ s, Inv y.B σ s.heap → FrOK y.B env ρ σ s.heap → Run y A (Own env W) (exec st env) s σ (QF y.B env Q)
noncomputable def XS (sts : List Stmt) (ρ : Env1) (σ : St) (Q : Fl → Env1 → St → Prop) : Prop :=
  ∀ A, Room A n → ∀ s, Inv y.B σ s.heap → FrOK y.B env ρ σ s.heap → Run y A (Own env W) (execs sts env) s σ (QF y.B env Q)
end

section
variable {y : Sy} {n : Nat} {env : Env} {W : Str → Prop} {ρ : Env1} {σ : St} {Q : Fl → Env1 → St → Prop}
theorem XS.mono {sts : List Stmt} {Q' : Fl → Env1 → St → Prop} (h : XS y n env W sts ρ σ Q) (q : ∀ g ρ' σ', Q g ρ' σ' → Q' g ρ' σ') : XS y n env W sts ρ σ Q' :=
  fun A hA s I F => (h A hA s I F).mono fun _ _ _ _ _ ⟨g, ρ', a, b, z⟩ => ⟨g, ρ', a, b, q _ _ _ z⟩
theorem EX.mono {st : Stmt} {Q' : Fl → Env1 → St → Prop} (h : EX y n env W st ρ σ Q) (q : ∀ g ρ' σ', Q g ρ' σ' → Q' g ρ' σ') : EX y n env W st ρ σ Q' :=
  fun A hA s I F => (h A hA s I F).mono fun _ _ _ _ _ ⟨g, ρ', a, b, z⟩ => ⟨g, ρ', a, b, q _ _ _ z⟩
theorem XS_nil (h : Q .next ρ σ) : XS y n env W [] ρ σ Q := fun _ _ _ I F _ => wpAny_execs_nil ⟨_, _, σ, rfl, I, .refl .., .next, ρ, trivial, F, h⟩
noncomputable def kS (y : Sy) (n : Nat) (env : Env) (W : Str → Prop) (rest : List Stmt) (Q : Fl → Env1 → St → Prop) (g : Fl) (ρ' : Env1) (σ' : St) : Prop := match g with
  | .next => XS y n env W rest ρ' σ' Q
  | g => Q g ρ' σ'
noncomputable def kW (N : Env1 → St → Prop) (Q : Fl → Env1 → St → Prop) (g : Fl) (ρ' : Env1) (σ' : St) : Prop := match g with
  | .next | .cont => N ρ' σ'
  | .brk => Q .next ρ' σ'
  | .ret x => Q (.ret x) ρ' σ'
theorem XS_cons {st : Stmt} {rest : List Stmt} (h : EX y n env W st ρ σ (kS y n env W rest Q)) : XS y n env W (st :: rest) ρ σ Q :=
  fun A hA s I F E => by
    refine wpAny_execs_cons ((h A hA s I F).use fun f h₁ tk σ₁ I₁ K₁ z => ?_)
    obtain ⟨g, ρ₁, hf, F₁, q⟩ := z
    cases f <;> cases g <;> try exact hf.elim
    · exact (q A hA _ I₁ F₁).fin K₁
    · exact ⟨h₁, tk, σ₁, rfl, I₁, K₁, _, ρ₁, hf, F₁, q⟩
    · exact ⟨h₁, tk, σ₁, rfl, I₁, K₁, _, ρ₁, hf, F₁, q⟩
    · exact ⟨h₁, tk, σ₁, rfl, I₁, K₁, _, ρ₁, hf, F₁, q⟩
noncomputable def kRet (ρ : Env1) (Q : Fl → Env1 → St → Prop) (x : V) (σ' : St) : Prop := Q (.ret x) ρ σ'
noncomputable def kNext (ρ : Env1) (Q : Fl → Env1 → St → Prop) (_ : V) (σ' : St) : Prop := Q .next ρ σ'
noncomputable def kAsg (y : Sy) (n : Nat) (env : Env) (W : Str → Prop) (t : Expr) (ρ : Env1) (Q : Fl → Env1 → St → Prop) (x : V) (σ' : St) : Prop := AT y n env W t x ρ σ' (Q .next)
structure KIf (y : Sy) (n : Nat) (env : Env) (W : Str → Prop) (b o : List Stmt) (ρ : Env1) (Q : Fl → Env1 → St → Prop) (c : Bool) (σ' : St) : Prop where
  t : c = true → XS y n env W b ρ σ' Q
  f : c = false → XS y n env W o ρ σ' Q
theorem X_ret {e : Expr} {pos : Pos} (h : EV y n env ρ σ e (kRet ρ Q)) : EX y n env W (.Return (some e) pos) ρ σ Q :=
  fun A hA s I F E => wpAny_Return_some ((h A hA s I F).use fun v h₁ tk σ₁ I₁ K₁ ⟨x, r, q⟩ => ⟨h₁, tk, σ₁, rfl, I₁, K₁.w, .ret x, ρ, r, F.keep I K₁, q⟩)
theorem X_ret0 {pos : Pos} (h : Q (.ret (.val .none)) ρ σ) : EX y n env W (.Return none pos) ρ σ Q :=
  fun A hA s I F E => wpAny_Return_none ⟨_, _, σ, rfl, I, .refl .., .ret _, ρ, .val _, F, h⟩
theorem X_cont {pos : Pos} (h : Q .cont ρ σ) : EX y n env W (.Continue pos) ρ σ Q :=
  fun A hA s I F E => by
    show wpAny _ A (standAt pos >>= fun _ => pure Flow.cont) _ _ _
    exact wpAny_bind (wpAny_standAt (wpAny_pure ⟨_, _, σ, rfl, I, .refl .., .cont, ρ, trivial, F, h⟩))
theorem noInt (F : FrOK y.B env ρ σ h) : interactive env = false := by unfold interactive; rw [F.kind]; rfl
theorem X_expr {e : Expr} {pos : Pos} (h : EV y n env ρ σ e (kNext ρ Q)) (hs : swapsWith e none pos.line env = pure false := by rfl) : EX y n env W (.Expr e pos) ρ σ Q :=
  fun A hA s I F E => wpAny_Expr_any ((h A hA s I F).use fun v h₁ tk σ₁ I₁ K₁ ⟨x, r, q⟩ => ⟨h₁, tk, σ₁, rfl, I₁, K₁.w, .next, ρ, trivial, F.keep I K₁, q⟩) (noInt F) hs
theorem X_assign {e t : Expr} {pos : Pos} (h : EV y n env ρ σ e (kAsg y n env W t ρ Q)) (hs : swapsWith e (some t) pos.line env = pure false := by rfl) (hw : swappedStores [t] e env = pure none := by rfl) (ht : plainE t = true := by rfl) : EX y n env W (.Assign [t] e pos) ρ σ Q :=
  fun A hA s I F E => by
    rw [exec_Assign]
    refine wpAny_bind (wpAny_standAt ?_)
    rw [show swapsWithSole [t] e pos.line env = pure false from hs]
    refine wpAny_bind (wpAny_pure ?_)
    rw [if_neg (by decide)]
    refine wpAny_bind ((h A hA s I F).use fun v h₁ tk σ₁ I₁ K₁ ⟨x, r, q⟩ => ?_)
    rw [hw]
    refine wpAny_bind (wpAny_pure ?_)
    have e1 : (assignEach [t] env).map (·.2) = [assign t env] := by cases t <;> first | rfl | cases ht
    rw [e1]
    show wpAny _ A (do assignAll v [assign t env]; pure Flow.next) _ _ _
    exact wpAny_bind ((q A hA _ v I₁ (F.keep I K₁) r).use fun _ h₂ tk₂ σ₂ I₂ K₂ ⟨ρ₂, F₂, q⟩ => wpAny_pure ⟨h₂, tk₂, σ₂, rfl, I₂, K₁.w.trans K₂, .next, ρ₂, trivial, F₂, q⟩)
theorem RepL.rev {h : Heap} {vs : List Value} {us : List V} (r : RepL h vs us) : RepL h vs.reverse us.reverse := by
  induction us generalizing vs with
  | nil => rw [r.nil_inv]; exact .nil
  | cons x l ih =>
    obtain ⟨v, vs', e, a, b⟩ := r.cons_inv
    rw [e, List.reverse_cons, List.reverse_cons]; exact (ih b).append (.cons a .nil)
noncomputable def updAll : List Str → List V → Env1 → Env1
  | x :: ns, u :: us, ρ => updAll ns us (upd ρ x u)
  | _, _, ρ => ρ
theorem binds_run {A : Around} : ∀ (ns : List Str) (us : List V) (vs : List Value) {ρ : Env1} {s : Shared}, (∀ x ∈ ns, env.kindOf x = some .local) → ns.length = us.length → Inv y.B σ s.heap → FrOK y.B env ρ σ s.heap → RepL s.heap vs us →
    Run y A (Own env W) (assignInOrder (ns.map fun n => bindName env n) vs) s σ fun _ h' σ' => σ' = σ ∧ FrOK y.B env (updAll ns us ρ) σ h' := by
  intro ns
  induction ns with
  | nil =>
    intro us vs ρ s hk hl I F r E
    cases us with
    | nil => exact assignInOrder_nil ⟨_, _, σ, rfl, I, .refl .., rfl, F⟩
    | cons _ _ => cases hl
  | cons x ns ih =>
    intro us vs ρ s hk hl I F r E
    cases us with
    | nil => cases hl
    | cons u us =>
      obtain ⟨v, vs', ev, rv, rs⟩ := r.cons_inv
      rw [ev]
      refine assignInOrder_cons (wpAny_bindName ((store_local (W := W) I F (hk x (.head _)) rv).use fun _ h₁ tk₁ σ₁ I₁ K₁ ⟨e, F₁⟩ => ?_))
      subst e
      exact (ih us vs' (fun z hz => hk z (.tail _ hz)) (Nat.succ.inj hl) I₁ F₁ (rs.mono (K₁.imm I F.noTup))).fin K₁
inductive KSw (ρ : Env1) (ns : List Str) (Q : Fl → Env1 → St → Prop) (x : V) (σ' : St) : Prop
  | mk (us : List V) (e : x = .tup us) (l : ns.length = us.length) (q : Q .next (updAll ns.reverse us.reverse ρ) σ')
inductive KSw2 (ρ : Env1) (a b : Str) (Q : Fl → Env1 → St → Prop) (x : V) (σ' : St) : Prop
  | mk (u w : V) (e : x = .tup [u, w]) (q : Q .next (upd (upd ρ b w) a u) σ')
inductive KSw3 (ρ : Env1) (a b c : Str) (Q : Fl → Env1 → St → Prop) (x : V) (σ' : St) : Prop
  | mk (u w z : V) (e : x = .tup [u, w, z]) (q : Q .next (upd (upd (upd ρ c z) b w) a u) σ')
theorem X_swapN {ns : List Str} {es vs : List Expr} {k k' : Nat} {tp vp pos : Pos} (hw : swappedStores [.Tuple es k tp] (.Tuple vs k' vp) env = pure (some ns)) (hk : ∀ x ∈ ns.reverse, env.kindOf x = some .local)
    (h : EV y n env ρ σ (.Tuple vs k' vp) (KSw ρ ns Q)) : EX y n env W (.Assign [.Tuple es k tp] (.Tuple vs k' vp) pos) ρ σ Q :=
  fun A hA s I F E => by
    refine Assign_Tuple_swapped ((h A hA s I F).use fun v h₁ tk σ₁ I₁ K₁ ⟨x, r, us, ex, el, q⟩ => ?_) rfl hw
    rw [ex] at r
    obtain ⟨a, vs, e, t, rl⟩ := r.tup_inv
    rw [e, show ns.length = vs.toArray.size from by rw [el, List.size_toArray, rl.length]]
    refine wpAny_unpackItems_tuple (items := vs.toArray) hA.hd t.isTuple fun h₂ he => ?_
    obtain ⟨I₂, K₂⟩ := grow I₁ (h' := h₂) fun b o e => he b o (fun q => Nat.lt_irrefl _ (q ▸ Heap.lt_size e)) e
    exact (binds_run (W := W) ns.reverse us.reverse vs.reverse hk (by rw [List.length_reverse, List.length_reverse, el]) I₂ ((F.keep I K₁).keep I₁ K₂) (rl.keep I₁ K₂).rev).use fun _ h₃ tk₃ σ₃ I₃ K₃ z =>
      ⟨h₃, tk₃, σ₃, rfl, I₃, (K₁.w.trans K₂.w).trans K₃, .next, _, trivial, z.1 ▸ z.2, z.1 ▸ q⟩
theorem X_swap2 {a b : Str} {es vs : List Expr} {k k' : Nat} {tp vp pos : Pos} (hw : swappedStores [.Tuple es k tp] (.Tuple vs k' vp) env = pure (some [a, b])) (ha : env.kindOf a = some .local) (hb : env.kindOf b = some .local)
    (h : EV y n env ρ σ (.Tuple vs k' vp) (KSw2 ρ a b Q)) : EX y n env W (.Assign [.Tuple es k tp] (.Tuple vs k' vp) pos) ρ σ Q :=
  X_swapN hw (List.forall_mem_cons.mpr ⟨hb, List.forall_mem_cons.mpr ⟨ha, fun _ h => absurd h List.not_mem_nil⟩⟩) (h.mono fun x σ' ⟨u, w, e, q⟩ => ⟨[u, w], e, rfl, q⟩)
theorem X_swap3 {a b c : Str} {es vs : List Expr} {k k' : Nat} {tp vp pos : Pos} (hw : swappedStores [.Tuple es k tp] (.Tuple vs k' vp) env = pure (some [a, b, c])) (ha : env.kindOf a = some .local) (hb : env.kindOf b = some .local) (hc : env.kindOf c = some .local)
    (h : EV y n env ρ σ (.Tuple vs k' vp) (KSw3 ρ a b c Q)) : EX y n env W (.Assign [.Tuple es k tp] (.Tuple vs k' vp) pos) ρ σ Q :=
  X_swapN hw (List.forall_mem_cons.mpr ⟨hc, List.forall_mem_cons.mpr ⟨hb, List.forall_mem_cons.mpr ⟨ha, fun _ h => absurd h List.not_mem_nil⟩⟩⟩) (h.mono fun x σ' ⟨u, w, z, e, q⟩ => ⟨[u, w, z], e, rfl, q⟩)

theorem X_if {t : Expr} {b o : List Stmt} {pos : Pos} (h : BV y n env ρ σ t (KIf y n env W b o ρ Q)) : EX y n env W (.If t b o pos) ρ σ Q :=
  fun A hA s I F E => by
    refine wpAny_If ((h A hA s I F).use fun c h₁ tk σ₁ I₁ K₁ ⟨q1, q2⟩ => ?_)
    cases c with
    | true => exact (q1 rfl A hA _ I₁ (F.keep I K₁)).fin K₁.w
    | false => exact (q2 rfl A hA _ I₁ (F.keep I K₁)).fin K₁.w

inductive KLt (J : Nat → Env1 → St → Prop) (k : Nat) (ρ₂ : Env1) (σ₂ : St) : Prop
  | mk (m : Nat) (l : m < k) (j : J m ρ₂ σ₂)
structure KWh (y : Sy) (n : Nat) (env : Env) (W : Str → Prop) (b : List Stmt) (ρ : Env1) (J : Nat → Env1 → St → Prop) (k : Nat) (Q : Fl → Env1 → St → Prop) (c : Bool) (σ' : St) : Prop where
  t : c = true → XS y n env W b ρ σ' (kW (KLt J k) Q)
  f : c = false → Q .next ρ σ'
inductive WAt (y : Sy) (env : Env) (W : Str → Prop) (J : Nat → Env1 → St → Prop) (s : Shared) (σ : St) (m : Nat) (s' : Shared) : Prop
  | mk (h' : Heap) (tk : Nat) (σ' : St) (ρ' : Env1) (e : s' = sw s h' tk) (i : Inv y.B σ' h') (k : Keep (Own env W) σ s.heap σ' h') (f : FrOK y.B env ρ' σ' h') (j : J m ρ' σ')
theorem X_while {t : Expr} {b : List Stmt} {pos : Pos} (J : Nat → Env1 → St → Prop)
    (turn : ∀ k ρ σ, J k ρ σ → BV y n env ρ σ t (KWh y n env W b ρ J k Q))
    (k : Nat) (h : J k ρ σ) : EX y n env W (.While t b [] pos) ρ σ Q :=
  fun A hA s I F E => by
    refine wpAny_While (codeAny_whileLoop (WAt y env W J s σ) ?_ k ⟨_, _, σ, ρ, rfl, I, .refl .., F, h⟩)
    rintro m _ ⟨h', tk, σ', ρ', rfl, I', K', F', j⟩
    refine (turn m ρ' σ' j A hA _ I' F').use fun c h₁ tk₁ σ₁ I₁ K₁ ⟨q1, q2⟩ => ?_
    cases c with
    | true =>
      refine (q1 rfl A hA _ I₁ (F'.keep I' K₁)).use fun f h₂ tk₂ σ₂ I₂ K₂ ⟨g, ρ₂, hf, F₂, q⟩ => ?_
      cases f <;> cases g <;> try exact hf.elim
      · obtain ⟨m', hm, j'⟩ := q; exact ⟨m', hm, h₂, tk₂, σ₂, ρ₂, rfl, I₂, (K'.trans K₁.w).trans K₂, F₂, j'⟩
      · exact ⟨h₂, tk₂, σ₂, rfl, I₂, (K'.trans K₁.w).trans K₂, .next, ρ₂, trivial, F₂, q⟩
      · obtain ⟨m', hm, j'⟩ := q; exact ⟨m', hm, h₂, tk₂, σ₂, ρ₂, rfl, I₂, (K'.trans K₁.w).trans K₂, F₂, j'⟩
      · exact ⟨h₂, tk₂, σ₂, rfl, I₂, (K'.trans K₁.w).trans K₂, .ret _, ρ₂, hf, F₂, q⟩
    | false => exact wpAny_execs_nil ⟨h₁, tk₁, σ₁, rfl, I₁, K'.trans K₁.w, .next, ρ', trivial, F'.keep I' K₁, q2 rfl⟩

theorem owned_go {A : Around} {E : Value → Shared → Prop} {s : Shared} {J : Addr} {v u : Value} {i : Nat} {x : V} {t : Expr} {Q : Unit → Shared → Prop} (z : ItAt s.heap J v i x) (hQ : Q () s) : wpAny (model y.prog y.w) A (letOwnedTupleGo t (.ref J) u) Q E s := by
  have key : ∃ o T vs, s.heap.get? J = some o ∧ o.cls = .type T ∧ o.data = .fields vs ∧ (["enumerate", "zip", "dict_itemiterator", "dict_reverseitemiterator", "odict_iterator", "itertools.zip_longest", "itertools.pairwise"].contains T) = false := by
    unfold ItAt at z
    split at z
    · obtain ⟨e, o, ho, hc, r⟩ := z; exact ⟨o, _, _, ho, hc, r, by decide⟩
    · obtain ⟨a, e, o, ho, hc, r⟩ := z; exact ⟨o, _, _, ho, hc, r, by decide⟩
    · exact ⟨_, _, _, z, rfl, rfl, by decide⟩
    · exact z.elim
  obtain ⟨o, T, vs, ho, hc, hd, hT⟩ := key
  have body : ∀ es k p, wpAny (model y.prog y.w) A (letOwnedTupleGo (.Tuple es k p) (.ref J) u) Q E s := fun es k p => by
    cases u with
    | ref a =>
      refine wpAny_bind (wpAny_load ho ?_)
      rw [hc, hd]
      show wpAny _ A (if (["enumerate", "zip", "dict_itemiterator", "dict_reverseitemiterator", "odict_iterator", "itertools.zip_longest", "itertools.pairwise"].contains T && vs[0]? == some (rawInt a)) = true then _ else _) Q E s
      rw [hT, Bool.false_and, if_neg (by decide)]
      exact wpAny_pure hQ
    | _ => exact wpAny_pure hQ
  cases t with
  | Tuple es k p => exact body es k p
  | List es p => exact body es 0 p
  | _ => exact wpAny_pure hQ

theorem drop_step {all : List V} {i : Nat} {x x' : V} {xs : List V} (h : all.drop i = x' :: xs) (ex : all[i]? = some x) : i < all.length ∧ x = x' ∧ all.drop (i + 1) = xs := by
  obtain ⟨hlt, ex⟩ := List.getElem?_eq_some_iff.mp ex
  rw [List.drop_eq_getElem_cons hlt] at h
  obtain ⟨a, b⟩ := List.cons.inj h
  exact ⟨hlt, ex.symm.trans a, b⟩
theorem drop_end {all : List V} {i : Nat} {x : V} (h : all.drop i = []) (ex : all[i]? = some x) : False :=
  Nat.lt_irrefl _ (Nat.lt_of_lt_of_le (List.getElem?_eq_some_iff.mp ex).1 (List.drop_eq_nil_iff.mp h))
theorem drop_full {all : List V} {i : Nat} {x : V} {xs : List V} (h : all.drop i = x :: xs) (e : i = all.length) : False := by
  rw [e, List.drop_length] at h; cases h
noncomputable def FL (y : Sy) (n : Nat) (env : Env) (W : Str → Prop) (t : Expr) (body : List Stmt) (src : V) (all : List V) (Q : Fl → Env1 → St → Prop) : List V → Env1 → St → Prop
  | [], ρ, σ => IterOf y σ src all ∧ Q .next ρ σ
  | x :: xs, ρ, σ => IterOf y σ src all ∧ AT y n env W t x ρ σ fun ρ₁ σ₁ => XS y n env W body ρ₁ σ₁ (kW (FL y n env W t body src all Q xs) Q)
theorem FrOK.offObj {B : Heap} {h : Heap} (F : FrOK B env ρ σ h) {a : Addr} {o : Obj} (ho : h.get? a = some o) (h1 : ∀ es ep, o.data ≠ .dict es ep) (h2 : ∀ v, o.data ≠ .cell v) : env.locals ≠ a ∧ (∀ x c, env.cells.lookup x = some c → c ≠ a) ∧ ¬ Own env W a := by
  have l : env.locals ≠ a := by
    rintro rfl
    obtain ⟨m', ⟨o', es, ep, ho', hd, _⟩, _⟩ := F.ns
    rw [ho] at ho'; cases ho'
    exact h1 _ _ hd
  have c : ∀ x c, env.cells.lookup x = some c → c ≠ a := by
    rintro x _ hx rfl
    obtain ⟨_, _, v, ⟨o', ho', hd⟩, _⟩ := F.cell x _ hx
    rw [ho] at ho'; cases ho'
    exact h2 _ hd
  exact ⟨l, c, fun q => by rcases q with q | ⟨x, _, hx⟩; exact l q.symm; exact c x _ hx rfl⟩
theorem ItAt.data {h : Heap} {J : Addr} {v : Value} {i : Nat} {x : V} (z : ItAt h J v i x) : ∃ o vs, h.get? J = some o ∧ o.data = .fields vs ∧ ¬ Im o := by
  obtain ⟨o', ho', hm⟩ := z.notIm
  have : ∃ o vs, h.get? J = some o ∧ o.data = .fields vs := by
    unfold ItAt at z
    split at z
    · obtain ⟨e, o, ho, hc, r⟩ := z; exact ⟨o, _, ho, r⟩
    · obtain ⟨a, e, o, ho, hc, r⟩ := z; exact ⟨o, _, ho, r⟩
    · exact ⟨_, _, z, rfl⟩
    · exact z.elim
  obtain ⟨o₁, vs, ho, hd⟩ := this
  rw [ho] at ho'; cases ho'
  exact ⟨_, vs, ho, hd, hm⟩
theorem stepJ {B : Heap} {h h' : Heap} {σ : St} {ρ : Env1} {J : Addr} {v : Value} {i : Nat} {x : V} (I : Inv B σ h) (F : FrOK B env ρ σ h) (z : ItAt h J v i x) (hB : B.get? J = none) (hσ : σ J = none) (k : ∀ b o, b ≠ J → h.get? b = some o → h'.get? b = some o) :
    Inv B σ h' ∧ FrOK B env ρ σ h' ∧ Imm h h' := by
  obtain ⟨o, vs, ho, hd, hm⟩ := z.data
  obtain ⟨f1, f2, _⟩ := F.offObj (W := fun _ => True) ho (by simp [hd]) (by simp [hd])
  have nt : NoTup (· = J) h := fun a o' m e q => by subst q; rw [ho] at e; cases e; exact hm m
  obtain ⟨I', K'⟩ := growBut0 I nt (by rintro x rfl; exact hB) (by rintro x rfl; exact hσ) k
  exact ⟨I', F.keepX I K' nt f1 f2, K'.imm I nt⟩
end
end Mine
end
section
open PySem PySem.W PySem.Calls PyProof.Rows
set_option maxRecDepth 100000
set_option linter.unusedVariables false
namespace Mine

section
variable {y : Sy} {n : Nat} {env : Env} {W : Str → Prop} {ρ : Env1} {σ : St} {Q : Fl → Env1 → St → Prop}
theorem freshB {B : Heap} {σ : St} {h : Heap} (I : Inv B σ h) : B.get? h.objs.size = none ∧ σ h.objs.size = none ∧ h.get? h.objs.size = none := by
  have g : h.get? h.objs.size = none := by
    cases e : h.get? h.objs.size with
    | none => rfl
    | some o => exact absurd (Heap.lt_size e) (Nat.lt_irrefl _)
  refine ⟨?_, ?_, g⟩
  · cases e : B.get? h.objs.size with
    | none => rfl
    | some o => rw [I.base _ _ e] at g; cases g
  · cases e : σ h.objs.size with
    | none => rfl
    | some o => obtain ⟨o', ho, _⟩ := I.obj _ _ e; rw [ho] at g; cases g
theorem ItAt.keepO {h h' : Heap} {X : Addr → Prop} {σ σ' : St} {J : Addr} {v : Value} {i : Nat} {x : V} (z : ItAt h J v i x) (K : Keep X σ h σ' h') (hσ : σ J = none) (hX : ¬ X J) : ItAt h' J v i x ∧ σ' J = none := by
  obtain ⟨o, _, ho, _⟩ := z.data
  exact ⟨z.at' fun o e => K.get J o e hσ hX, K.off J o ho hσ⟩
structure ForAt (y : Sy) (n : Nat) (env : Env) (W : Str → Prop) (t : Expr) (b : List Stmt) (src : V) (all : List V) (Q : Fl → Env1 → St → Prop) (σ₁ : St) (h₁ : Heap) (v : Value) (h' : Heap) (σ' : St) (ρ' : Env1) (i : Nat) (xs : List V) : Prop where
  I : Inv y.B σ' h'
  K : Keep (Own env W) σ₁ h₁ σ' h'
  F : FrOK y.B env ρ' σ' h'
  rv : RepV h' v src
  z : ItAt h' h₁.objs.size v i src
  off : σ' h₁.objs.size = none
  hd : all.drop i = xs
  hi : i ≤ all.length
  fl : FL y n env W t b src all Q xs ρ' σ'
inductive FAt (y : Sy) (n : Nat) (env : Env) (W : Str → Prop) (t : Expr) (b : List Stmt) (src : V) (all : List V) (Q : Fl → Env1 → St → Prop) (σ₁ : St) (h₁ : Heap) (v : Value) (s : Shared) (m : Nat) (s' : Shared) : Prop
  | mk (h' : Heap) (tk : Nat) (σ' : St) (ρ' : Env1) (i : Nat) (xs : List V) (e : s' = sw s h' tk) (em : m = xs.length) (f : ForAt y n env W t b src all Q σ₁ h₁ v h' σ' ρ' i xs)
inductive KFor (y : Sy) (n : Nat) (env : Env) (W : Str → Prop) (t : Expr) (b : List Stmt) (Q : Fl → Env1 → St → Prop) (ρ : Env1) (src : V) (σ' : St) : Prop
  | mk (all : List V) (h : FL y n env W t b src all Q all ρ σ')
theorem X_for {t it : Expr} {b : List Stmt} {pos : Pos} (h : EV y n env ρ σ it (KFor y n env W t b Q ρ)) (hf : ∀ x, foldedSetIterable it env x = pure x := by intro _; rfl) : EX y n env W (.For t it b [] pos) ρ σ Q :=
  fun A hA s I F E => by
    refine wpAny_For ((h A hA s I F).use fun v h₁ tk₁ σ₁ I₁ K₁ ⟨src, rv, all, fl⟩ => ?_) hf
    have io : IterOf y σ₁ src all := by cases all <;> exact fl.1
    obtain ⟨f1, f2, f3⟩ := freshB I₁
    refine iter_start (s := sw s h₁ tk₁) I₁ rv io fun o z => ?_
    have F₁ := F.keep I K₁
    obtain ⟨I₂, K₂⟩ := Keep.tup I₁ o
    refine codeAny_forLoop_any (FAt y n env W t b src all Q σ₁ h₁ v s) ?_ all.length
      ⟨h₁.push o, _, σ₁, ρ, 0, all, rfl, rfl, I₂, K₂.w, F₁.keep I₁ K₂, rv.keep I₁ K₂, z, f2, rfl, Nat.zero_le _, fl⟩
    rintro m _ ⟨h', tk, σ', ρ', i, xs, rfl, rfl, I', K', F', rv', z', hσ, hd, hi, fl'⟩
    have io' : IterOf y σ' src all := by cases xs <;> exact fl'.1
    refine iter_next (s := sw s h' tk) hA.hd I' rv' io' z' hi (fun x u h₃ tk₃ ex ru z₃ k₃ => ?_) fun h₃ tk₃ ei k₃ => ?_
    · cases xs with
      | nil => exact (drop_end hd ex).elim
      | cons x' xs =>
        obtain ⟨hlt, hx', hxs⟩ := drop_step hd ex
        subst hx'
        obtain ⟨o₃, vs₃, ho₃, hd₃, _⟩ := z₃.data
        obtain ⟨I₃, F₃, im₃⟩ := stepJ I' F' z' f1 hσ k₃
        have K13 : Keep (Own env W) σ₁ h₁ σ' h₃ := K'.transOff k₃ f3
        have nO : ¬ Own env W h₁.objs.size := (F₃.offObj ho₃ (by simp [hd₃]) (by simp [hd₃])).2.2
        have rv₃ : RepV h₃ v src := rv'.mono im₃
        refine owned_go z₃ ?_
        refine (fl'.2 A hA (sw s h₃ tk₃) u I₃ F₃ ru).use fun _ h₄ tk₄ σ₄ I₄ K₄ ⟨ρ₄, F₄, q⟩ => ?_
        obtain ⟨z₄, hσ₄⟩ := z₃.keepO K₄ hσ nO
        have rv₄ := rv₃.mono (K₄.imm I₃ F₃.noTup)
        refine (q A hA (sw s h₄ tk₄) I₄ F₄).use fun f h₅ tk₅ σ₅ I₅ K₅ ⟨g, ρ₅, hfg, F₅, q⟩ => ?_
        obtain ⟨z₅, hσ₅⟩ := z₄.keepO K₅ hσ₄ nO
        have rv₅ := rv₄.mono (K₅.imm I₄ F₄.noTup)
        have KK := (K13.trans K₄).trans K₅
        cases f <;> cases g <;> try exact hfg.elim
        · exact ⟨xs.length, by simp, h₅, tk₅, σ₅, ρ₅, i + 1, xs, rfl, rfl, I₅, KK, F₅, rv₅, z₅, hσ₅, hxs, hlt, q⟩
        · exact ⟨h₅, tk₅, σ₅, rfl, I₅, K₁.w.trans KK, .next, ρ₅, trivial, F₅, q⟩
        · exact ⟨xs.length, by simp, h₅, tk₅, σ₅, ρ₅, i + 1, xs, rfl, rfl, I₅, KK, F₅, rv₅, z₅, hσ₅, hxs, hlt, q⟩
        · exact ⟨h₅, tk₅, σ₅, rfl, I₅, K₁.w.trans KK, .ret _, ρ₅, hfg, F₅, q⟩
    · cases xs with
      | cons x' xs => exact (drop_full hd ei).elim
      | nil =>
        obtain ⟨I₃, F₃, im₃⟩ := stepJ I' F' z' f1 hσ k₃
        have K13 : Keep (Own env W) σ₁ h₁ σ' h₃ := K'.transOff k₃ f3
        exact wpAny_execs_nil ⟨h₃, tk₃, σ', rfl, I₃, K₁.w.trans K13, .next, ρ', trivial, F₃, fl'.2⟩
end
end Mine
end
section
open PySem PySem.W PySem.Calls PyProof.Rows
set_option maxRecDepth 100000
set_option linter.unusedVariables false
namespace Mine

noncomputable def clF (env : Env) : List (Str × NameKind) → List (Str × Addr) → List (Str × Addr)
  | [], acc => acc
  | (x, k) :: r, acc => if k == .free then clF env r ((x, (env.cells.lookup x).getD 0) :: acc) else clF env r acc
theorem clF_go (env : Env) : ∀ (names : List (Str × NameKind)) (acc : List (Str × Addr)), (∀ p ∈ names, p.2 = .free → ∃ c, env.cells.lookup p.1 = some c) →
    (forIn names acc fun x r => (match x with | (name, kind) => if (kind == NameKind.free) = true then (do let a ← cellOf env name; pure (ForInStep.yield ((name, a) :: r))) else pure (ForInStep.yield r) : Sem (ForInStep (List (Str × Addr))))) = pure (clF env names acc)
  | [], acc, _ => rfl
  | (x, k) :: r, acc, h => by
    rw [List.forIn_cons]
    have ih := fun acc => clF_go env r acc fun p hp => h p (.tail _ hp)
    cases hk : k == NameKind.free with
    | true =>
      obtain ⟨c, hc⟩ := h (x, k) (.head _) (by simpa using hk)
      have e1 : cellOf env x = pure c := by unfold cellOf; rw [hc]
      simp only [hk, if_true, e1, pure_bind, ih, clF]
      rw [hc]; rfl
    | false => simp only [hk, Bool.false_eq_true, if_false, pure_bind, ih, clF]
theorem closure_eq {scope : Scope} {env : Env} (h : ∀ p ∈ scope.names, p.2 = .free → ∃ c, env.cells.lookup p.1 = some c) : closureFor scope env = pure (clF env scope.names []) := by
  unfold closureFor
  have := clF_go env scope.names [] h
  simp only [bind_pure]
  rw [← this]
theorem mem_clF {env : Env} : ∀ {names : List (Str × NameKind)} {acc : List (Str × Addr)} {x : Str} {c : Addr}, (x, c) ∈ clF env names acc → (x, c) ∈ acc ∨ ((x, NameKind.free) ∈ names ∧ c = (env.cells.lookup x).getD 0)
  | [], acc, x, c, h => .inl h
  | (z, k) :: r, acc, x, c, h => by
    unfold clF at h
    split at h
    · rename_i hk
      have hk : k = .free := by simpa using hk
      rcases mem_clF h with h | ⟨h, e⟩
      · rcases List.mem_cons.mp h with h | h
        · cases h; exact .inr ⟨by rw [hk]; exact .head _, rfl⟩
        · exact .inl h
      · exact .inr ⟨.tail _ h, e⟩
    · rcases mem_clF h with h | ⟨h, e⟩
      · exact .inl h
      · exact .inr ⟨.tail _ h, e⟩
theorem clF_has {env : Env} : ∀ {names : List (Str × NameKind)} {acc : List (Str × Addr)} {x : Str}, ((x, NameKind.free) ∈ names ∨ ∃ c, (x, c) ∈ acc) → ∃ c, (x, c) ∈ clF env names acc
  | [], acc, x, h => by
    rcases h with h | h
    · cases h
    · exact h
  | (z, k) :: r, acc, x, h => by
    unfold clF
    split
    · refine clF_has ?_
      rcases h with h | ⟨c, h⟩
      · rcases List.mem_cons.mp h with h | h
        · cases h; exact .inr ⟨_, .head _⟩
        · exact .inl h
      · exact .inr ⟨c, .tail _ h⟩
    · rename_i hk
      refine clF_has ?_
      rcases h with h | ⟨c, h⟩
      · rcases List.mem_cons.mp h with h | h
        · cases h; simp at hk
        · exact .inl h
      · exact .inr ⟨c, h⟩
theorem mem_cellsFrom : ∀ {names : List (Str × NameKind)} {n : Nat} {acc : List (Str × Addr)} {x : Str} {c : Addr}, (x, c) ∈ cellsFrom n names acc → (x, c) ∈ acc ∨ ((x, NameKind.cell) ∈ names ∧ n ≤ c)
  | [], n, acc, x, c, h => .inl h
  | (z, k) :: r, n, acc, x, c, h => by
    unfold cellsFrom at h
    split at h
    · rename_i hk
      have hk : k = .cell := by simpa using hk
      rcases mem_cellsFrom h with h | ⟨h, e⟩
      · rcases List.mem_cons.mp h with h | h
        · cases h; exact .inr ⟨by rw [hk]; exact .head _, Nat.le_refl _⟩
        · exact .inl h
      · exact .inr ⟨.tail _ h, Nat.le_of_succ_le e⟩
    · rcases mem_cellsFrom h with h | ⟨h, e⟩
      · exact .inl h
      · exact .inr ⟨.tail _ h, e⟩
theorem cellsFrom_has : ∀ {names : List (Str × NameKind)} {n : Nat} {acc : List (Str × Addr)} {x : Str}, ((x, NameKind.cell) ∈ names ∨ ∃ c, (x, c) ∈ acc) → ∃ c, (x, c) ∈ cellsFrom n names acc
  | [], n, acc, x, h => by
    rcases h with h | h
    · cases h
    · exact h
  | (z, k) :: r, n, acc, x, h => by
    unfold cellsFrom
    split
    · refine cellsFrom_has ?_
      rcases h with h | ⟨c, h⟩
      · rcases List.mem_cons.mp h with h | h
        · cases h; exact .inr ⟨_, .head _⟩
        · exact .inl h
      · exact .inr ⟨c, .tail _ h⟩
    · rename_i hk
      refine cellsFrom_has ?_
      rcases h with h | ⟨c, h⟩
      · rcases List.mem_cons.mp h with h | h
        · cases h; simp at hk
        · exact .inl h
      · exact .inr ⟨c, h⟩
theorem cellsFrom_inj : ∀ {names : List (Str × NameKind)} {n : Nat} {acc : List (Str × Addr)}, (∀ p ∈ acc, p.2 < n) → (∀ p ∈ acc, ∀ p' ∈ acc, p.2 = p'.2 → p.1 = p'.1) → ∀ p ∈ cellsFrom n names acc, ∀ p' ∈ cellsFrom n names acc, p.2 = p'.2 → p.1 = p'.1
  | [], n, acc, _, h => h
  | (z, k) :: r, n, acc, hl, h => by
    unfold cellsFrom
    split
    · refine cellsFrom_inj (fun p hp => ?_) fun p hp p' hp' e => ?_
      · rcases List.mem_cons.mp hp with hp | hp
        · subst hp; exact Nat.lt_succ_self _
        · exact Nat.lt_succ_of_lt (hl p hp)
      · rcases List.mem_cons.mp hp with hp | hp <;> rcases List.mem_cons.mp hp' with hp' | hp'
        · rw [hp, hp']
        · subst hp; exact absurd (hl p' hp') (by rw [← e]; exact Nat.lt_irrefl _)
        · subst hp'; exact absurd (hl p hp) (by rw [e]; exact Nat.lt_irrefl _)
        · exact h p hp p' hp' e
    · exact cellsFrom_inj hl h
theorem pushCells_cell : ∀ {names : List (Str × NameKind)} {h : Heap} {acc : List (Str × Addr)} {x : Str} {c : Addr}, (∀ x c, (x, c) ∈ acc → h.objs.size ≤ c → False) → (x, c) ∈ cellsFrom h.objs.size names acc → h.objs.size ≤ c → (pushCells h names).IsCell c none
  | [], h, acc, x, c, ha, hm, hc => (ha _ _ hm hc).elim
  | (z, k) :: r, h, acc, x, c, ha, hm, hc => by
    unfold cellsFrom at hm
    unfold pushCells
    split
    · rename_i hk
      rw [if_pos hk] at hm
      by_cases e : c = h.objs.size
      · subst e
        exact ⟨_, pushCells_keeps _ _ _ _ (Heap.get?_push_size _ rfl), rfl⟩
      · rw [← Heap.size_push h { cls := .type "cell", data := .cell none }] at hm
        refine pushCells_cell (acc := (z, h.objs.size) :: acc) (fun x c hm' hc' => ?_) hm (by rw [Heap.size_push]; exact Nat.lt_of_le_of_ne hc (Ne.symm e))
        rw [Heap.size_push] at hc'
        rcases List.mem_cons.mp hm' with q | q
        · cases q; exact ar400 hc'
        · exact ha _ _ q (by exact ar125 hc')
    · rename_i hk
      rw [if_neg hk] at hm
      exact pushCells_cell ha hm hc
theorem lookup_of_mem {α : Type} : ∀ {l : List (Str × α)} {n : Str}, (∃ c, (n, c) ∈ l) → ∃ c, l.lookup n = some c
  | (k, v) :: r, n, h => by
    rw [List.lookup_cons]
    cases hb : n == k with
    | true => exact ⟨v, rfl⟩
    | false =>
      obtain ⟨c, h⟩ := h
      rcases List.mem_cons.mp h with h | h
      · cases h; simp at hb
      · exact lookup_of_mem ⟨c, h⟩
  | [], n, h => by obtain ⟨c, h⟩ := h; cases h

structure ScOK (scope : Scope) (env : Env) : Prop where
  kind : scope.kind = .function
  uniq : ∀ p ∈ scope.names, scope.names.lookup p.1 = some p.2
  free : ∀ p ∈ scope.names, p.2 = .free → env.kindOf p.1 = some .cell ∨ env.kindOf p.1 = some .free
noncomputable def scOKb (scope : Scope) (kindOf : Str → Option NameKind) : Bool :=
  scope.kind == .function && scope.names.all fun p => scope.names.lookup p.1 == some p.2 && (p.2 != .free || kindOf p.1 == some .cell || kindOf p.1 == some .free)
theorem ScOK.of {scope : Scope} {env : Env} (h : scOKb scope env.kindOf = true) : ScOK scope env := by
  unfold scOKb at h
  rw [Bool.and_eq_true, List.all_eq_true] at h
  refine ⟨by simpa using h.1, fun p hp => ?_, fun p hp e => ?_⟩
  · have := h.2 p hp; rw [Bool.and_eq_true] at this; simpa using this.1
  · have := h.2 p hp; rw [Bool.and_eq_true] at this
    have := this.2
    rw [e] at this
    simpa using this
noncomputable def cEnv (scope : Scope) (env : Env) (C : Addr) : Env :=
  { scope := relabel scope env, locals := C, globals := env.globals, cells := cellsFrom (C + 1) scope.names (clF env scope.names []), qual := env.qual, func := none, code := env.code, frame := env.frame, builtins := env.builtins }
noncomputable def cRho (scope : Scope) (ρ : Env1) : Env1 := fun x => if scope.names.lookup x = some .free then ρ x else none
noncomputable def cW (scope : Scope) : Str → Prop := fun x => scope.names.lookup x = some .cell
theorem relabel_lookup {scope : Scope} {env : Env} {x : Str} : ∀ {names : List (Str × NameKind)}, (names.map fun (n, k) => if (k == NameKind.free && env.scope.kind == .function && env.kindOf n == some .cell) then (n, NameKind.cell) else (n, k)).lookup x =
    (names.lookup x).map fun k => if (k == NameKind.free && env.scope.kind == .function && env.kindOf x == some .cell) then .cell else k
  | [] => rfl
  | (n, k) :: r => by
    rw [List.map_cons]
    have ih := relabel_lookup (scope := scope) (env := env) (x := x) (names := r)
    have e0 : (match (n, k) with | (n, k) => if (k == NameKind.free && env.scope.kind == .function && env.kindOf n == some .cell) = true then (n, NameKind.cell) else (n, k)) = (n, if (k == NameKind.free && env.scope.kind == .function && env.kindOf n == some .cell) = true then NameKind.cell else k) := by
      dsimp only
      split <;> rfl
    rw [e0, List.lookup_cons, List.lookup_cons]
    cases hb : x == n with
    | true => rw [beq_iff_eq.mp hb]; rfl
    | false => exact ih
theorem cEnv_kind {scope : Scope} {env : Env} {C : Addr} {x : Str} : (cEnv scope env C).kindOf x = (scope.names.lookup x).map fun k => if (k == NameKind.free && env.scope.kind == .function && env.kindOf x == some .cell) then .cell else k :=
  relabel_lookup (scope := scope)
section
variable {B : Heap} {env : Env} {ρ : Env1} {σ : St} {h : Heap} {scope : Scope}
theorem cEnv_ok (F : FrOK B env ρ σ h) (I : Inv B σ h) (S : ScOK scope env) : FrOK B (cEnv scope env h.objs.size) (cRho scope ρ) σ (pushCells (h.push { cls := .type "dict", data := .dict #[] }) scope.names) ∧
    (∀ a, Own (cEnv scope env h.objs.size) (cW scope) a → h.get? a = none) := by
  generalize hH : h.push { cls := .type "dict", data := .dict #[] } = H
  have sz : H.objs.size = h.objs.size + 1 := by rw [← hH, Heap.size_push]
  have keepH : ∀ b o, h.get? b = some o → (pushCells H scope.names).get? b = some o := fun b o e => pushCells_keeps _ _ _ _ (hH ▸ Heap.get?_push_of_some _ e)
  have fr : ∀ a, h.objs.size ≤ a → B.get? a = none ∧ σ a = none ∧ h.get? a = none := fun a ha => by
    have g : h.get? a = none := by
      cases e : h.get? a with
      | none => rfl
      | some o => exact absurd (Heap.lt_size e) (Nat.not_lt.mpr ha)
    refine ⟨?_, ?_, g⟩
    · cases e : B.get? a with
      | none => rfl
      | some o => rw [I.base _ _ e] at g; cases g
    · cases e : σ a with
      | none => rfl
      | some o => obtain ⟨o', ho, _⟩ := I.obj _ _ e; rw [ho] at g; cases g
  have clm : ∀ x c, (x, c) ∈ clF env scope.names [] → scope.names.lookup x = some .free ∧ env.cells.lookup x = some c := fun x c hm => by
    rcases mem_clF hm with q | ⟨q, e⟩
    · cases q
    · obtain ⟨c', hc'⟩ := F.has x (S.free _ q rfl)
      rw [hc'] at e
      exact ⟨S.uniq _ q, by rw [e]; exact hc'⟩
  have cllt : ∀ x c, (x, c) ∈ clF env scope.names [] → c < h.objs.size := fun x c hm => by
    obtain ⟨_, _, v, ⟨o, ho, _⟩, _⟩ := F.cell x c (clm x c hm).2
    exact Heap.lt_size ho
  have cellCase : ∀ x c, (cEnv scope env h.objs.size).cells.lookup x = some c → (scope.names.lookup x = some .free ∧ env.cells.lookup x = some c) ∨ (scope.names.lookup x = some .cell ∧ h.objs.size + 1 ≤ c ∧ (pushCells H scope.names).IsCell c none) := fun x c e => by
    have hm := mem_of_lookup e
    rcases mem_cellsFrom hm with q | ⟨q, hc⟩
    · exact .inl (clm x c q)
    · refine .inr ⟨S.uniq _ q, hc, ?_⟩
      have hm' : (x, c) ∈ cellsFrom H.objs.size scope.names (clF env scope.names []) := by rw [sz]; exact hm
      exact pushCells_cell (fun x' c' hm'' hc'' => Nat.lt_irrefl c' (Nat.lt_of_lt_of_le (cllt x' c' hm'') (Nat.le_trans (by rw [sz]; exact Nat.le_succ _) hc''))) hm' (by exact ar401 sz hc)
  refine ⟨⟨?_, F.glob, F.blt, (fr _ (Nat.le_refl _)).1, (fr _ (Nat.le_refl _)).2.1, ?_, ?_, ?_, ?_, ?_⟩, ?_⟩
  · exact S.kind
  · refine ⟨fun _ => none, ⟨_, _, _, pushCells_keeps _ _ _ _ (hH ▸ Heap.get?_push_size _ rfl), rfl, ?_, ?_⟩, fun x u hk e => ?_⟩
    · obtain ⟨o, es, ep, ho, hd, hs, _⟩ := Heap.Ns.new h (.type "dict")
      rw [Heap.get?_push_size _ rfl] at ho; cases ho; cases hd; exact hs
    · obtain ⟨o, es, ep, ho, hd, hs, hn⟩ := Heap.Ns.new h (.type "dict")
      rw [Heap.get?_push_size _ rfl] at ho; cases ho; cases hd; exact hn
    · exfalso
      unfold cRho at e
      split at e
      · rename_i hf
        rw [cEnv_kind, hf] at hk
        simp at hk
        split at hk <;> cases hk
      · cases e
  · intro x c e
    rcases cellCase x c e with ⟨hx, e'⟩ | ⟨hx, hc, hi⟩
    · obtain ⟨a, b, v, hv, q⟩ := F.cell x c e'
      refine ⟨a, b, v, hv.keeps keepH, fun u eu => ?_⟩
      unfold cRho at eu
      rw [if_pos hx] at eu
      obtain ⟨w, r, z⟩ := q u eu
      exact ⟨w, r, z.mono fun b o _ e => keepH b o e⟩
    · obtain ⟨a, b, _⟩ := fr c (by exact ar125 hc)
      refine ⟨a, b, none, hi, fun u eu => ?_⟩
      unfold cRho at eu
      rw [hx, if_neg (by simp)] at eu
      cases eu
  · intro x hk
    rw [cEnv_kind] at hk
    refine lookup_of_mem ?_
    show ∃ c, (x, c) ∈ cellsFrom (h.objs.size + 1) scope.names (clF env scope.names [])
    refine cellsFrom_has ?_
    cases hx : scope.names.lookup x with
    | none => rw [hx] at hk; simp at hk
    | some k =>
      have hm := mem_of_lookup hx
      rw [hx] at hk
      by_cases hf : k = .free
      · subst hf; exact .inr (clF_has (.inl hm))
      · have : (k == NameKind.free) = false := by simpa using hf
        simp only [Option.map_some, this, Bool.false_and, Bool.false_eq_true, if_false, Option.some.injEq] at hk
        rcases hk with hk | hk
        · subst hk; exact .inl hm
        · exact absurd hk hf
  · intro x x' c e e'
    refine cellsFrom_inj (n := h.objs.size + 1) (names := scope.names) (acc := clF env scope.names []) (fun p hp => Nat.lt_succ_of_lt (cllt p.1 p.2 hp)) (fun p hp p' hp' q => ?_) (x, c) (mem_of_lookup e) (x', c) (mem_of_lookup e') rfl
    have a := (clm p.1 p.2 hp).2
    have b := (clm p'.1 p'.2 hp').2
    exact F.apart _ _ _ a (by rw [q]; exact b)
  · intro x c e hk
    rw [cEnv_kind] at hk
    rcases cellCase x c e with ⟨hx, _⟩ | ⟨hx, _⟩ <;> rw [hx] at hk <;> simp at hk
    split at hk <;> cases hk
  · intro a q
    rcases q with rfl | ⟨x, hx, e⟩
    · exact (fr _ (Nat.le_refl _)).2.2
    · rcases cellCase x a e with ⟨hx', _⟩ | ⟨_, hc, _⟩
      · unfold cW at hx; rw [hx] at hx'; cases hx'
      · exact (fr a (by exact ar125 hc)).2.2
end
theorem newEnv_comp {M : Model} {A : Around} {E : Value → Shared → Prop} {s : Shared} {env : Env} {scope : Scope} {cl : List (Str × Addr)} {Q : Env → Shared → Prop}
    (h : Q { scope := scope, locals := s.heap.objs.size, globals := env.globals, cells := cellsFrom (s.heap.objs.size + 1) scope.names cl, qual := env.qual, func := none, code := env.code, frame := env.frame, builtins := env.builtins }
      { s with heap := pushCells (s.heap.push { cls := .type "dict", data := .dict #[] }) scope.names }) :
    wpAny M A (newFunctionEnv scope env.globals cl [] env.qual none .none (some env)) Q E s := by
  simp only [newFunctionEnv, Option.isSome_some, if_true]
  refine wpAny_bind (wpAny_alloc ?_)
  refine wpAny_bind (wpAny_layCells _ (fun name kind cells => by cases hkc : kind == NameKind.cell <;> simp [hkc]) _ _ _ _ ?_)
  rw [show ({ s with heap := s.heap.push { cls := .type "dict", data := .dict #[] } } : Shared).heap.objs.size = s.heap.objs.size + 1 from Heap.size_push ..]
  rw [List.forIn_nil]
  exact wpAny_bind (wpAny_pure (wpAny_pure h))
end Mine
end
section
open PySem PySem.W PySem.Calls PyProof.Rows
set_option maxRecDepth 100000
set_option linter.unusedVariables false
namespace Mine

section
variable (y : Sy) (n : Nat) (env : Env) (W : Str → Prop)
noncomputable def TS : List Expr → Env1 → St → (Bool → St → Prop) → Prop
  | [], _, σ, B => B true σ
  | c :: cs, ρ, σ, B => BV y n env ρ σ c fun b σ' => match b with | true => TS cs ρ σ' B | false => B false σ'
noncomputable def CL (t : Expr) (ifs : List Expr) (src : V) (all : List V) (P : List V → Env1 → St → (List V → Env1 → St → Prop) → Prop) (post : List V → Env1 → St → Prop) : List V → List V → Env1 → St → Prop
  | [], acc, ρ, σ => IterOf y σ src all ∧ post acc ρ σ
  | x :: xs, acc, ρ, σ => IterOf y σ src all ∧ AT y n env W t x ρ σ fun ρ₁ σ₁ => TS y n env ifs ρ₁ σ₁ fun b σ₂ => match b with
      | true => P acc ρ₁ σ₂ fun acc' ρ₃ σ₃ => CL t ifs src all P post xs acc' ρ₃ σ₃
      | false => CL t ifs src all P post xs acc ρ₁ σ₂
noncomputable def P1 (elt : Expr) (acc : List V) (ρ : Env1) (σ : St) (post : List V → Env1 → St → Prop) : Prop := acc.length ≤ 1000000 ∧ EV y n env ρ σ elt fun z σ' => post (acc ++ [z]) ρ σ'
inductive KP2 (t elt : Expr) (acc : List V) (ρ : Env1) (post : List V → Env1 → St → Prop) (src : V) (σ' : St) : Prop
  | mk (all : List V) (h : CL y n env W t [] src all (P1 y n env elt) post all acc ρ σ')
noncomputable def P2 (t it : Expr) (elt : Expr) (acc : List V) (ρ : Env1) (σ : St) (post : List V → Env1 → St → Prop) : Prop := EV y n env ρ σ it (KP2 y n env W t elt acc ρ post)
end

noncomputable def turnOf (p : Pos) (t : Expr) (ifs : List Expr) (J D : Addr) (cenv : Env) (tail : Sem Fin) (c : Code) : Sem Fin := do
  standAt p
  match ← pyNext (.ref J) with
  | none => pure (.done .next)
  | some v =>
    letOwnedTupleGo t (.ref J) v
    assign t cenv v
    let mut ok := true
    for c in ifs do
      if ok then ok ← isTrue c cenv (eval c cenv)
    if ok then tail else again c

noncomputable def OwnD (env : Env) (W : Str → Prop) (D : Addr) : Addr → Prop := fun a => Own env W a ∨ a = D
structure Ctx (y : Sy) (env : Env) (W : Str → Prop) (h₁ : Heap) (D : Addr) : Prop where
  own : ∀ a, Own env W a → h₁.get? a = none
  d : h₁.get? D = none
  dB : y.B.get? D = none
structure CS (y : Sy) (env : Env) (σ₁ : St) (h₁ : Heap) (D : Addr) (acc : List V) (ρ : Env1) (σ : St) (h : Heap) : Prop where
  inv : Inv y.B σ h
  fr : FrOK y.B env ρ σ h
  keep : Keep No σ₁ h₁ σ h
  dn : σ D = none
  d : ∃ vs c, h.get? D = some (listObj vs c) ∧ RepL h vs acc

section
variable {y : Sy} {n : Nat} {env : Env} {W : Str → Prop} {σ₁ : St} {h₁ : Heap} {D : Addr}
theorem notIm_list {vs : List Value} {c : Nat} : ¬ Im (listObj vs c) := by
  rintro (⟨e, _⟩ | ⟨e, _⟩)
  · exact absurd e (by show ¬ (Value.type "list" = Value.type "tuple"); decide)
  · exact absurd e (by show ¬ (Value.type "list" = Value.type "range"); decide)
theorem CS.notOwn {acc : List V} {ρ : Env1} {σ : St} {h : Heap} (S : CS y env σ₁ h₁ D acc ρ σ h) : env.locals ≠ D ∧ (∀ x c, env.cells.lookup x = some c → c ≠ D) ∧ ¬ Own env W D := by
  obtain ⟨vs, c, e, _⟩ := S.d
  exact S.fr.offObj e (by simp) (by simp)
theorem CS.step {acc : List V} {ρ ρ' : Env1} {σ σ' : St} {h h' : Heap} (X : Ctx y env W h₁ D) (S : CS y env σ₁ h₁ D acc ρ σ h) (I : Inv y.B σ' h') (F : FrOK y.B env ρ' σ' h') (K : Keep (Own env W) σ h σ' h') : CS y env σ₁ h₁ D acc ρ' σ' h' where
  inv := I
  fr := F
  keep := S.keep.transNew K fun a q => .inr (X.own a q)
  dn := by obtain ⟨vs, c, e, _⟩ := S.d; exact K.off D _ e S.dn
  d := by
    obtain ⟨vs, c, e, r⟩ := S.d
    exact ⟨vs, c, K.get D _ e S.dn S.notOwn.2.2, r.mono (K.imm S.inv S.fr.noTup)⟩
theorem CS.jump {acc : List V} {ρ : Env1} {σ : St} {h h' : Heap} {J : Addr} {v : Value} {i : Nat} {x : V} (S : CS y env σ₁ h₁ D acc ρ σ h) (z : ItAt h J v i x) (hB : y.B.get? J = none) (hσ : σ J = none) (hJ : h₁.get? J = none) (k : ∀ b o, b ≠ J → h.get? b = some o → h'.get? b = some o) : CS y env σ₁ h₁ D acc ρ σ h' := by
  obtain ⟨I, F, im⟩ := stepJ S.inv S.fr z hB hσ k
  refine ⟨I, F, S.keep.transOff k hJ, S.dn, ?_⟩
  obtain ⟨vs, c, e, r⟩ := S.d
  refine ⟨vs, c, k D _ ?_ e, r.mono im⟩
  rintro rfl
  obtain ⟨o, vs', ho, hd, _⟩ := z.data
  rw [e] at ho; cases ho; cases hd

theorem tests_false : ∀ (cs : List Expr), (forIn cs false (fun c r => if r = true then (do let ok ← isTrue c env (eval c env); pure (ForInStep.yield ok) : Sem (ForInStep Bool)) else pure (ForInStep.yield r)) : Sem Bool) = pure false
  | [] => rfl
  | c :: cs => by
    rw [List.forIn_cons]
    simp only [Bool.false_eq_true, if_false, pure_bind]
    exact tests_false cs
theorem tests_run {A : Around} (hA : Room A n) : ∀ (cs : List Expr) {ρ : Env1} {σ : St} {B : Bool → St → Prop} {s : Shared}, TS y n env cs ρ σ B → Inv y.B σ s.heap → FrOK y.B env ρ σ s.heap →
    Run y A No (forIn cs true fun c r => if r = true then do let ok ← isTrue c env (eval c env); pure (ForInStep.yield ok) else pure (ForInStep.yield r)) s σ fun b _ σ' => B b σ'
  | [], ρ, σ, B, s, h, I, F => fun E => by rw [List.forIn_nil]; exact wpAny_pure ⟨_, _, σ, rfl, I, .refl .., h⟩
  | c :: cs, ρ, σ, B, s, h, I, F => fun E => by
    rw [List.forIn_cons]
    simp only [if_true]
    refine wpAny_bind (wpAny_bind ((h A hA s I F).use fun b h₁ tk σ₁ I₁ K₁ q => wpAny_pure ?_))
    cases b with
    | true => exact (tests_run hA cs q I₁ (F.keep I K₁)).fin K₁
    | false =>
      show wpAny _ A (forIn cs false _) _ _ _
      rw [tests_false]
      exact wpAny_pure ⟨h₁, tk, σ₁, rfl, I₁, K₁, q⟩

inductive CEnd (y : Sy) (env : Env) (W : Str → Prop) (σ₁ : St) (h₁ : Heap) (D : Addr) (s : Shared) (σ : St) (post : List V → Env1 → St → Prop) (s' : Shared) : Prop
  | mk (h' : Heap) (tk : Nat) (σ' : St) (acc' : List V) (ρ' : Env1) (e : s' = sw s h' tk) (S : CS y env σ₁ h₁ D acc' ρ' σ' h') (K : Keep (OwnD env W D) σ s.heap σ' h') (q : post acc' ρ' σ')
inductive CLAt (y : Sy) (n : Nat) (env : Env) (W : Str → Prop) (σ₁ : St) (h₁ : Heap) (D : Addr) (t : Expr) (ifs : List Expr) (src : V) (all : List V) (P : List V → Env1 → St → (List V → Env1 → St → Prop) → Prop) (post : List V → Env1 → St → Prop) (σ₀ : St) (h₀ : Heap) (v : Value) (J : Addr) (s : Shared) (m : Nat) (s' : Shared) : Prop
  | mk (h' : Heap) (tk : Nat) (σ' : St) (ρ' : Env1) (acc' : List V) (i : Nat) (xs : List V) (e : s' = sw s h' tk) (S : CS y env σ₁ h₁ D acc' ρ' σ' h') (K : Keep (OwnD env W D) σ₀ h₀ σ' h') (rv : RepV h' v src) (z : ItAt h' J v i src) (off : σ' J = none) (hd : all.drop i = xs) (hi : i ≤ all.length) (em : m = xs.length) (cl : CL y n env W t ifs src all P post xs acc' ρ' σ')
noncomputable def CB (y : Sy) (n : Nat) (env : Env) (W : Str → Prop) (σ₁ : St) (h₁ : Heap) (D : Addr) (body : Sem Unit) (acc : List V) (ρ : Env1) (σ : St) (post : List V → Env1 → St → Prop) : Prop :=
  ∀ A, Room A n → ∀ (s : Shared) E, CS y env σ₁ h₁ D acc ρ σ s.heap → wpAny (model y.prog y.w) A body (fun _ => CEnd y env W σ₁ h₁ D s σ post) E s
theorem CB_emit {elt : Expr} {acc : List V} {ρ : Env1} {σ : St} {post : List V → Env1 → St → Prop} (X : Ctx y env W h₁ D) (h : P1 y n env elt acc ρ σ post) : CB y n env W σ₁ h₁ D (do let _ ← call (.builtin "list.append") [.ref D, ← eval elt env]) acc ρ σ post :=
  fun A hA s E S => by
    obtain ⟨hz, h⟩ := h
    refine wpAny_bind ((h A hA s S.inv S.fr).use fun v h₂ tk σ₂ I₂ K₂ ⟨x, r, q⟩ => ?_)
    have S₂ := S.step X I₂ (S.fr.keep S.inv K₂) K₂.w
    obtain ⟨vs, c, ho, rl⟩ := S₂.d
    have z := rl.length
    refine wpAny_bind (call_meets PySem.F.slot_list_append ⟨_, ho, rfl⟩ PySem.F.entry_list_append (PySem.F.args_list_append_2 _ _) (list_append D vs.toArray c _ (by rw [List.size_toArray, sizeLine_eq]; exact ar317 hz z)) ⟨ho, wpAny_pure ?_⟩)
    have ee : (listObj vs c).mapSeq (·.push v) = listObj (vs ++ [v]) (c + 1) := by simp [Obj.mapSeq, listObj]
    have hS := Heap.get?_update_self (Obj.mapSeq (·.push v)) ho rfl
    rw [ee] at hS
    have k : ∀ b o, b ≠ D → h₂.get? b = some o → (h₂.update D (Obj.mapSeq (·.push v))).get? b = some o := fun b o hb eb => (Heap.get?_update_other _ _ (Ne.symm hb)).trans eb
    have nt : NoTup (· = D) h₂ := fun a o m e q => by subst q; rw [ho] at e; cases e; exact notIm_list m
    obtain ⟨I₃, K₃⟩ := growBut I₂ nt (by rintro x rfl; exact X.dB) (by rintro x rfl; exact S₂.dn) k (by rintro b o rfl _; exact ⟨_, hS⟩)
    have no := S₂.notOwn (W := W)
    have im := K₃.imm I₂ nt
    refine ⟨_, _, σ₂, acc ++ [x], ρ, rfl, ⟨I₃, S₂.fr.keepX I₂ K₃.k0 nt no.1 no.2.1, S₂.keep.transOff k X.d, S₂.dn, vs ++ [v], c + 1, hS, (rl.mono im).append (.cons (r.mono im) .nil)⟩, K₂.w.trans (K₃.weaken fun a q => .inr q), q⟩

noncomputable def CT (y : Sy) (n : Nat) (env : Env) (W : Str → Prop) (σ₁ : St) (h₁ : Heap) (D : Addr) (tail : Sem Fin) (c : Code) (acc : List V) (ρ : Env1) (σ : St) (post : List V → Env1 → St → Prop) : Prop :=
  ∀ A, Room A n → ∀ (s : Shared) E, CS y env σ₁ h₁ D acc ρ σ s.heap → wpAny (model y.prog y.w) A tail (fun f s' => f = .again c ∧ CEnd y env W σ₁ h₁ D s σ post s') E s
theorem CB.tail {body : Sem Unit} {c : Code} {acc : List V} {ρ : Env1} {σ : St} {post : List V → Env1 → St → Prop} (h : CB y n env W σ₁ h₁ D body acc ρ σ post) : CT y n env W σ₁ h₁ D (do body; again c) c acc ρ σ post :=
  fun A hA s E S => wpAny_bind (wpAny_mono (h A hA s E S) (fun _ s' q => wpAny_pure ⟨rfl, q⟩) fun _ _ e => e)

theorem iter_self {A : Around} {E : Value → Shared → Prop} {s : Shared} {J : Addr} {v : Value} {i : Nat} {x : V} {Q : Value → Shared → Prop} (z : ItAt s.heap J v i x) (h : Q (.ref J) s) : wpAny (model y.prog y.w) A (pyIter (.ref J)) Q E s := by
  unfold ItAt at z
  split at z
  · exact wpAny_pyIter_listiter z.2 h
  · obtain ⟨a, _, z⟩ := z; exact wpAny_pyIter_tupleiter z h
  · exact wpAny_pyIter_rangeiter z h
  · exact z.elim

theorem comp_loop {A : Around} (hA : Room A n) (X : Ctx y env W h₁ D) {elt : Expr} {gens : List Comprehension} {scope : Scope} {pos p : Pos} {d : Nat} {J : Addr} {t : Expr} {ifs : List Expr} {tail : Sem Fin}
    (hT : compTurn (.ListComp elt gens scope pos) d (.ref J) (.ref D) env = turnOf p t ifs J D env tail (.compLoop (.ListComp elt gens scope pos) d (.ref J) (.ref D) env))
    {P : List V → Env1 → St → (List V → Env1 → St → Prop) → Prop} (hB : ∀ acc ρ σ post, P acc ρ σ post → CT y n env W σ₁ h₁ D tail (.compLoop (.ListComp elt gens scope pos) d (.ref J) (.ref D) env) acc ρ σ post)
    {σ₀ : St} {h₀ : Heap} (hJ : h₀.get? J = none) (hJ1 : h₁.get? J = none) (hJB : y.B.get? J = none) {s : Shared} {acc : List V} {ρ : Env1} {σ : St} {v : Value} {src : V} {all : List V} {post : List V → Env1 → St → Prop} {R : Result → Shared → Prop}
    (S : CS y env σ₁ h₁ D acc ρ σ s.heap) (K : Keep (OwnD env W D) σ₀ h₀ σ s.heap) (rv : RepV s.heap v src) (z : ItAt s.heap J v 0 src) (hσ : σ J = none) (h : CL y n env W t ifs src all P post all acc ρ σ)
    (hR : ∀ h' tk σ' acc' ρ', CS y env σ₁ h₁ D acc' ρ' σ' h' → Keep (OwnD env W D) σ₀ h₀ σ' h' → post acc' ρ' σ' → R (.ok .next) (sw s h' tk)) :
    codeAny (model y.prog y.w) A (.compLoop (.ListComp elt gens scope pos) d (.ref J) (.ref D) env) R s := by
  refine codeAny_loop rfl (CLAt y n env W σ₁ h₁ D t ifs src all P post σ₀ h₀ v J s) ?_ all.length
      ⟨s.heap, s.toks, σ, ρ, acc, 0, all, rfl, S, K, rv, z, hσ, rfl, Nat.zero_le _, rfl, h⟩
  rintro m _ ⟨h', tk, σ', ρ', acc', i, xs, rfl, S', K', rv', z', hσ', hd, hi, rfl, cl⟩
  show wpAny _ A ((compTurn (.ListComp elt gens scope pos) d (.ref J) (.ref D) env).onRaise (fun x => do noteFrame x env; theTreesLotGoes x)) _ _ _
  refine wpAny_noted ?_
  rw [hT]
  unfold turnOf
  refine wpAny_bind (wpAny_standAt (wpAny_bind ?_))
  have io' : IterOf y σ' src all := by cases xs <;> exact cl.1
  refine iter_next (s := sw s h' tk) hA.hd S'.inv rv' io' z' hi (fun x u h₃ tk₃ ex ru z₃ k₃ => ?_) fun h₃ tk₃ ei k₃ => ?_
  · cases xs with
    | nil => exact (drop_end hd ex).elim
    | cons x' xs =>
      obtain ⟨hlt, hx', hxs⟩ := drop_step hd ex
      subst hx'
      obtain ⟨o₃, vs₃, ho₃, hd₃, _⟩ := z₃.data
      have S₃ := S'.jump z' hJB hσ' hJ1 k₃
      obtain ⟨_, _, im₃⟩ := stepJ S'.inv S'.fr z' hJB hσ' k₃
      have K₃ : Keep (OwnD env W D) σ₀ h₀ σ' h₃ := K'.transOff k₃ hJ
      have nO : ¬ Own env W J := (S₃.fr.offObj ho₃ (by simp [hd₃]) (by simp [hd₃])).2.2
      have nD : J ≠ D := by
        rintro rfl
        obtain ⟨vs, c, e, _⟩ := S₃.d
        rw [e] at ho₃; cases ho₃; cases hd₃
      have rv₃ : RepV h₃ v src := rv'.mono im₃
      dsimp only
      refine wpAny_bind (owned_go z₃ (wpAny_bind ?_))
      refine (cl.2 A hA (sw s h₃ tk₃) u S₃.inv S₃.fr ru).use fun _ h₄ tk₄ σ₄ I₄ K₄ ⟨ρ₄, F₄, q⟩ => ?_
      obtain ⟨z₄, hσ₄⟩ := z₃.keepO K₄ hσ' nO
      have rv₄ := rv₃.mono (K₄.imm S₃.inv S₃.fr.noTup)
      have S₄ := S₃.step X I₄ F₄ K₄
      refine wpAny_bind ((tests_run hA ifs (s := sw s h₄ tk₄) q I₄ F₄).use fun b h₅ tk₅ σ₅ I₅ K₅ q => ?_)
      obtain ⟨z₅, hσ₅⟩ := z₄.keepO K₅ hσ₄ (fun x => x)
      have rv₅ := rv₄.keep I₄ K₅
      have S₅ := S₄.step X I₅ (F₄.keep I₄ K₅) K₅.w
      have K₅' : Keep (OwnD env W D) σ₀ h₀ σ₅ h₅ := (K₃.trans (K₄.weaken fun a q => .inl q)).trans K₅.w
      cases b with
      | false => exact wpAny_pure ⟨rfl, xs.length, by simp, h₅, tk₅, σ₅, ρ₄, acc', i + 1, xs, rfl, S₅, K₅', rv₅, z₅, hσ₅, hxs, hlt, rfl, q⟩
      | true =>
        refine wpAny_mono (hB _ _ _ _ q A hA (sw s h₅ tk₅) _ S₅) (fun f s₆ z => ?_) fun _ _ e => e
        obtain ⟨rfl, h₆, tk₆, σ₆, acc₆, ρ₆, rfl, S₆, K₆, q⟩ := z
        obtain ⟨z₆, hσ₆⟩ := z₅.keepO K₆ hσ₅ (fun x => by rcases x with x | x; exact nO x; exact nD x)
        have rv₆ := rv₅.mono (K₆.imm S₅.inv fun a o m e x => by
          rcases x with x | x
          · exact S₅.fr.noTup a o m e x
          · subst x
            obtain ⟨vs, c, e', _⟩ := S₅.d
            rw [e'] at e; cases e; exact notIm_list m)
        exact ⟨rfl, xs.length, by simp, h₆, tk₆, σ₆, ρ₆, acc₆, i + 1, xs, rfl, S₆, K₅'.trans K₆, rv₆, z₆, hσ₆, hxs, hlt, rfl, q⟩
  · cases xs with
    | cons x' xs => exact (drop_full hd ei).elim
    | nil => exact wpAny_pure (hR h₃ tk₃ σ' acc' ρ' (S'.jump z' hJB hσ' hJ1 k₃) (K'.transOff k₃ hJ) cl.2)

theorem compStart_1 {prog : Program} {w : World} {A : Around} {R : Result → Shared → Prop} {s : Shared} {elt t₁ i₁ t₂ i₂ : Expr} {scope : Scope} {pos : Pos} {it acc : Value}
    (h0 : codeAny (model prog w) A (.compLoop (.ListComp elt [⟨t₁, i₁, [], 0⟩, ⟨t₂, i₂, [], 0⟩] scope pos) 1 it acc env) R s)
    (h : wpAny (model prog w) A (pyIter it) (fun it' s' => codeAny (model prog w) A (.compLoop (.ListComp elt [⟨t₁, i₁, [], 0⟩, ⟨t₂, i₂, [], 0⟩] scope pos) 1 it' acc env) R s')
      (notedBy (model prog w) A env fun x s' => R (.error x) s') s) :
    codeAny (model prog w) A (.compStart (.ListComp elt [⟨t₁, i₁, [], 0⟩, ⟨t₂, i₂, [], 0⟩] scope pos) 1 it acc env) R s := by
  refine codeAny_of_tree ?_
  show wpAny _ _ ((compStart (.ListComp elt [⟨t₁, i₁, [], 0⟩, ⟨t₂, i₂, [], 0⟩] scope pos) 1 it acc env).onRaise (fun x => do noteFrame x env; standAt theWindowsPlace)) _ _ s
  refine wpAny_notedAt ?_
  unfold compStart
  show wpAny _ _ (ask >>= _) _ _ s
  refine wpAny_bind (wpAny_askSetting (wpAny_ite ?_))
  split
  · first
      | exact wpAny_bind (wpAny_pure (wpAny_pure (And.intro rfl h0)))
      | exact wpAny_pure (And.intro rfl h0)
  · first
      | exact wpAny_bind (wpAny_rule (wpAny_bind (wpAny_standAt (wpAny_bind (wpAny_mono h (fun it' s' h' => wpAny_pure (And.intro rfl h')) fun _ _ x => x)))))
      | (refine wpAny_bind (wpAny_rule ?_); show wpAny _ _ (standAt i₂.pos >>= _) _ _ s; exact wpAny_bind (wpAny_standAt (wpAny_bind (wpAny_mono h (fun it' s' h' => wpAny_pure (And.intro rfl h')) fun _ _ x => x))))

theorem turn1 {elt t iter : Expr} {ifs : List Expr} {scope : Scope} {pos : Pos} {J D : Addr} :
    compTurn (.ListComp elt [⟨t, iter, ifs, 0⟩] scope pos) 0 (.ref J) (.ref D) env = turnOf iter.pos t ifs J D env (do (do let _ ← call (.builtin "list.append") [.ref D, ← eval elt env] : Sem Unit); again (.compLoop (.ListComp elt [⟨t, iter, ifs, 0⟩] scope pos) 0 (.ref J) (.ref D) env)) (.compLoop (.ListComp elt [⟨t, iter, ifs, 0⟩] scope pos) 0 (.ref J) (.ref D) env) := by rfl
theorem turn2i {elt t₁ i₁ t₂ i₂ : Expr} {scope : Scope} {pos : Pos} {J D : Addr} :
    compTurn (.ListComp elt [⟨t₁, i₁, [], 0⟩, ⟨t₂, i₂, [], 0⟩] scope pos) 1 (.ref J) (.ref D) env = turnOf i₂.pos t₂ [] J D env (do (do let _ ← call (.builtin "list.append") [.ref D, ← eval elt env] : Sem Unit); again (.compLoop (.ListComp elt [⟨t₁, i₁, [], 0⟩, ⟨t₂, i₂, [], 0⟩] scope pos) 1 (.ref J) (.ref D) env)) (.compLoop (.ListComp elt [⟨t₁, i₁, [], 0⟩, ⟨t₂, i₂, [], 0⟩] scope pos) 1 (.ref J) (.ref D) env) := by rfl
noncomputable def inner (e : Expr) (i₂ : Expr) (D : Addr) (env : Env) (c : Code) : Sem Fin := do
  let x ← eval i₂ env
  standAt i₂.pos
  let x ← foldedSetIterable i₂ env x
  let _ ← runOwn (.compStart e 1 (← holding [x] (pyIter x)) (.ref D) env) env
  again c
theorem turn2o {elt t₁ i₁ t₂ i₂ : Expr} {scope : Scope} {pos : Pos} {J D : Addr} :
    compTurn (.ListComp elt [⟨t₁, i₁, [], 0⟩, ⟨t₂, i₂, [], 0⟩] scope pos) 0 (.ref J) (.ref D) env = turnOf i₁.pos t₁ [] J D env (inner (.ListComp elt [⟨t₁, i₁, [], 0⟩, ⟨t₂, i₂, [], 0⟩] scope pos) i₂ D env (.compLoop (.ListComp elt [⟨t₁, i₁, [], 0⟩, ⟨t₂, i₂, [], 0⟩] scope pos) 0 (.ref J) (.ref D) env)) (.compLoop (.ListComp elt [⟨t₁, i₁, [], 0⟩, ⟨t₂, i₂, [], 0⟩] scope pos) 0 (.ref J) (.ref D) env) := by rfl
end
end Mine
end
section
open PySem PySem.W PySem.Calls PyProof.Rows
set_option maxRecDepth 100000
set_option linter.unusedVariables false
namespace Mine

section
variable {y : Sy} {n : Nat} {env : Env} {W : Str → Prop} {σ₁ : St} {h₁ : Heap} {D : Addr}
theorem CT_inner (X : Ctx y env W h₁ D) {elt t₁ i₁ t₂ i₂ : Expr} {scope : Scope} {pos : Pos} {c : Code} {acc : List V} {ρ : Env1} {σ : St} {post : List V → Env1 → St → Prop} (hs : ∀ x, foldedSetIterable i₂ env x = pure x)
    (h : P2 y n env W t₂ i₂ elt acc ρ σ post) : CT y n env W σ₁ h₁ D (inner (.ListComp elt [⟨t₁, i₁, [], 0⟩, ⟨t₂, i₂, [], 0⟩] scope pos) i₂ D env c) c acc ρ σ post :=
  fun A hA s E S => by
    unfold inner
    refine wpAny_bind ((h A hA s S.inv S.fr).use fun v h₂ tk σ₂ I₂ K₂ ⟨src, rv, all, cl⟩ => wpAny_bind (wpAny_standAt (wpAny_bind (wpAny_of_eq (hs v) ?_))))
    have S₂ := S.step X I₂ (S.fr.keep S.inv K₂) K₂.w
    have io : IterOf y σ₂ src all := by cases all <;> exact cl.1
    obtain ⟨f1, f2, f3⟩ := freshB I₂
    have f4 : h₁.get? h₂.objs.size = none := by
      cases e : h₁.get? h₂.objs.size with
      | none => rfl
      | some o => obtain ⟨o', e'⟩ := S₂.keep.all _ o e; rw [f3] at e'; cases e'
    refine wpAny_bind (wpAny_holding (iter_start (s := sw s h₂ tk) I₂ rv io fun o z => ?_))
    obtain ⟨I₃, K₃⟩ := Keep.tup I₂ o
    have S₃ := S₂.step X I₃ (S₂.fr.keep I₂ K₃) K₃.w
    have fin : ∀ E, codeAny (model y.prog y.w) A (.compLoop (.ListComp elt [⟨t₁, i₁, [], 0⟩, ⟨t₂, i₂, [], 0⟩] scope pos) 1 (.ref h₂.objs.size) (.ref D) env)
        (fun r s' => match r with | .ok f => wpAny (model y.prog y.w) A (again c) (fun f s' => f = .again c ∧ CEnd y env W σ₁ h₁ D s σ post s') E s' | .error e => cameBackBy (model y.prog y.w) A env E e s') (sw s (h₂.push o) tk) := fun E => by
      refine comp_loop hA X turn2i (P := P1 y n env elt) (fun acc ρ σ post h => (CB_emit X h).tail) (σ₀ := σ₂) (h₀ := h₂) f3 f4 f1 (s := sw s (h₂.push o) tk) S₃ K₃.w (rv.keep I₂ K₃) z f2 cl ?_
      intro h' tk' σ' acc' ρ' S' K' hp
      exact wpAny_pure ⟨rfl, h', tk', σ', acc', ρ', rfl, S', K₂.w.trans K', hp⟩
    refine wpAny_bind (wpAny_runOwn ?_)
    exact compStart_1 (fin _) (iter_self (s := sw s (h₂.push o) tk) z (fin _))

structure After (y : Sy) (env : Env) (ρ : Env1) (σ : St) (h : Heap) (D C : Addr) (x : AO) (σ' : St) (h' : Heap) : Prop where
  inv : Inv y.B (σ'.put D x) h'
  fr : FrOK y.B env ρ (σ'.put D x) h'
  keep : Keep No σ h (σ'.put D x) h'
  dn : σ' D = none
  c : ∃ m, h'.Ns C m
  cB : y.B.get? C = none
  cS : (σ'.put D x) C = none
  cH : h.get? C = none
  cl : env.locals ≠ C
  cc : ∀ x c, env.cells.lookup x = some c → c ≠ C

inductive KCA (y : Sy) (n : Nat) (env : Env) (ρ : Env1) (scope : Scope) (t : Expr) (ifs : List Expr) (P : Env → List V → Env1 → St → (List V → Env1 → St → Prop) → Prop) (R : List V → St → Prop) (src : V) (σ₁ : St) : Prop
  | mk (all : List V) (h : ∀ cenv, cenv.scope = relabel scope env → CL y n cenv (cW scope) t ifs src all (P cenv) (fun acc _ σ₂ => R acc σ₂) all [] (cRho scope ρ) σ₁)
theorem comp_all {ρ : Env1} {σ : St} {use : Option (Value → Sem Unit)} {Q : Value → Shared → Prop} {E : Value → Shared → Prop} {elt t iter : Expr} {ifs : List Expr} {gs : List Comprehension} {scope : Scope} {pos : Pos} {R : List V → St → Prop}
    (hsc : ScOK scope env) (hs : ∀ x, foldedSetIterable iter env x = pure x) (tailOf : Addr → Addr → Env → Sem Fin)
    (hT : ∀ J D cenv, compTurn (.ListComp elt (⟨t, iter, ifs, 0⟩ :: gs) scope pos) 0 (.ref J) (.ref D) cenv = turnOf iter.pos t ifs J D cenv (tailOf J D cenv) (.compLoop (.ListComp elt (⟨t, iter, ifs, 0⟩ :: gs) scope pos) 0 (.ref J) (.ref D) cenv))
    (P : Env → List V → Env1 → St → (List V → Env1 → St → Prop) → Prop)
    (hB : ∀ J D cenv σ₁ h₁, Ctx y cenv (cW scope) h₁ D → cenv.scope = relabel scope env → ∀ acc ρ σ post, P cenv acc ρ σ post → CT y n cenv (cW scope) σ₁ h₁ D (tailOf J D cenv) (.compLoop (.ListComp elt (⟨t, iter, ifs, 0⟩ :: gs) scope pos) 0 (.ref J) (.ref D) cenv) acc ρ σ post)
    (hE : EV y n env ρ σ iter (KCA y n env ρ scope t ifs P R))
    {A : Around} (hA : Room A n) {s : Shared} (I : Inv y.B σ s.heap) (F : FrOK y.B env ρ σ s.heap)
    (hQ : ∀ D C acc σ' h' tk, After y env ρ σ s.heap D C (.list acc) σ' h' → R acc σ' → compPost (model y.prog y.w) A E use Q (.ref D) C (.ok .next) (sw s h' tk)) :
    wpAny (model y.prog y.w) A (comprehension (.ListComp elt (⟨t, iter, ifs, 0⟩ :: gs) scope pos) scope env (firstIterPos (⟨t, iter, ifs, 0⟩ :: gs) pos) (newList []) false (eval iter env) use) Q E s := by
  refine wpAny_comprehension_free rfl hs (closure_eq fun p hp e => F.has _ (hsc.free p hp e)) hsc.kind (fun x hx e => by rw [← e]; exact hsc.uniq x hx) ?_
  refine (hE A hA s I F).use fun v h₁ tk σ₁ I₁ K₁ ⟨src, rv, all, cl⟩ => ?_
  have io : IterOf y σ₁ src all := by have := cl { env with scope := relabel scope env } rfl; cases all <;> exact this.1
  obtain ⟨f1, f2, f3⟩ := freshB I₁
  have F₁ := F.keep I K₁
  refine iter_start (s := sw s h₁ tk) I₁ rv io fun o z => ?_
  obtain ⟨I₂, K₂⟩ := Keep.tup I₁ o
  have F₂ := F₁.keep I₁ K₂
  refine wpAny_newObj_type ?_
  obtain ⟨g1, g2, g3⟩ := freshB I₂
  obtain ⟨I₃, K₃⟩ := Keep.tup I₂ (listObj [] 0)
  have F₃ := F₂.keep I₂ K₃
  have hJ := z.data
  have nDJ : (h₁.push o).objs.size ≠ h₁.objs.size := fun e => by
    obtain ⟨o', _, ho', _⟩ := hJ
    have := Heap.lt_size ho'
    rw [e] at this; exact Nat.lt_irrefl _ this
  have d1 : h₁.get? (h₁.push o).objs.size = none := by
    cases e : h₁.get? (h₁.push o).objs.size with
    | none => rfl
    | some o' => obtain ⟨o'', e''⟩ := K₂.all _ o' e; rw [g3] at e''; cases e''
  refine newEnv_comp ?_
  generalize hD : (h₁.push o).objs.size = D at *
  have hDl : ((h₁.push o).push (listObj [] 0)).get? D = some (listObj [] 0) := by rw [← hD]; exact Heap.get?_push_size _ rfl
  obtain ⟨F₄, ow⟩ := cEnv_ok F₃ I₃ hsc
  generalize hH3 : (h₁.push o).push (listObj [] 0) = H₃ at *
  obtain ⟨k1, k2, k3⟩ := freshB I₃
  have keep4 : ∀ b o', H₃.get? b = some o' → (pushCells (H₃.push { cls := .type "dict", data := .dict #[] }) scope.names).get? b = some o' := fun b o' e => pushCells_keeps _ _ _ _ (Heap.get?_push_of_some _ e)
  obtain ⟨I₄, K₄⟩ := grow I₃ keep4
  have K13 : Keep No σ₁ h₁ σ₁ H₃ := K₂.trans0 K₃
  have K14 := K13.trans0 K₄
  have old1 : ∀ a, H₃.get? a = none → h₁.get? a = none := fun a e => by
    cases e' : h₁.get? a with
    | none => rfl
    | some o' => obtain ⟨o'', e''⟩ := K13.all _ o' e'; rw [e] at e''; cases e''
  have X : Ctx y (cEnv scope env H₃.objs.size) (cW scope) h₁ D := ⟨fun a q => old1 a (ow a q), d1, g1⟩
  have S₄ : CS y (cEnv scope env H₃.objs.size) σ₁ h₁ D [] (cRho scope ρ) σ₁ (pushCells (H₃.push { cls := .type "dict", data := .dict #[] }) scope.names) :=
    ⟨I₄, F₄, K14, g2, [], 0, keep4 _ _ hDl, .nil⟩
  have z₄ : ItAt (pushCells (H₃.push { cls := .type "dict", data := .dict #[] }) scope.names) h₁.objs.size v 0 src := z.at' fun o' e => keep4 _ _ (by rw [← hH3]; exact Heap.get?_push_of_some _ e)
  have hC1 : h₁.get? H₃.objs.size = none := old1 _ k3
  have loop : codeAny (model y.prog y.w) A (.compLoop (.ListComp elt (⟨t, iter, ifs, 0⟩ :: gs) scope pos) 0 (.ref h₁.objs.size) (.ref D) (cEnv scope env H₃.objs.size)) (compPost (model y.prog y.w) A E use Q (.ref D) H₃.objs.size)
      { s with heap := pushCells (H₃.push { cls := .type "dict", data := .dict #[] }) scope.names, toks := tk } := by
    refine comp_loop hA X (hT _ _ _) (P := P (cEnv scope env H₃.objs.size)) (hB _ _ _ _ _ X rfl) (σ₀ := σ₁) (h₀ := h₁) f3 f3 f1 (s := { s with heap := pushCells (H₃.push { cls := .type "dict", data := .dict #[] }) scope.names, toks := tk }) S₄ K14.w (rv.keep I₁ K14) z₄ f2 (cl _ rfl) ?_
    intro h' tk' σ' acc' ρ' S' K' hp
    refine hQ D H₃.objs.size acc' σ' h' tk' ?_ hp
    obtain ⟨vs, cc, ed, rd⟩ := S'.d
    have cl1 : H₃.objs.size ≠ D := fun e => by rw [← e] at hDl; rw [hDl] at k3; cases k3
    obtain ⟨mC, hnC, _⟩ := S'.fr.ns
    have Fo : FrOK y.B env ρ σ' h' := F₁.keep I₁ S'.keep
    have Io : Inv y.B (σ'.put D (.list acc')) h' := ⟨S'.inv.base, fun a x e => by
        by_cases q : a = D
        · rw [q, St.put_self] at e; cases e; rw [q]; exact ⟨_, ed, vs, cc, rfl, rd⟩
        · rw [St.put_ne q] at e; exact S'.inv.obj a x e, fun a x e => by
        by_cases q : a = D
        · rw [q]; exact X.dB
        · rw [St.put_ne q] at e; exact S'.inv.new a x e⟩
    have noD := Fo.offObj (W := fun _ => True) ed (by simp) (by simp)
    refine ⟨Io, ⟨Fo.kind, Fo.glob, Fo.blt, Fo.locB, by rw [St.put_ne noD.1]; exact Fo.locS, Fo.ns, fun x c e => ?_, Fo.has, Fo.apart, Fo.kinds⟩, ?_, S'.dn, ⟨mC, hnC⟩, S'.fr.locB, ?_, ?_, ?_, ?_⟩
    · obtain ⟨a, b, r⟩ := Fo.cell x c e
      exact ⟨a, by rw [St.put_ne (noD.2.1 x c e)]; exact b, r⟩
    · have KK := K₁.trans0 S'.keep
      refine ⟨KK.get, fun b o' e zz => ?_, KK.all⟩
      have : b ≠ D := fun q => by
        obtain ⟨o'', e''⟩ := K₁.all b o' e
        rw [q, X.d] at e''; cases e''
      rw [St.put_ne this]; exact KK.off b o' e zz
    · rw [St.put_ne cl1]; exact S'.fr.locS
    · cases e : s.heap.get? H₃.objs.size with
      | none => rfl
      | some o' => obtain ⟨o'', e''⟩ := K₁.all _ o' e; rw [hC1] at e''; cases e''
    · intro e
      obtain ⟨m, ⟨o', _, _, ho', _⟩, _⟩ := F₁.ns
      rw [e, hC1] at ho'; cases ho'
    · rintro x c e rfl
      obtain ⟨_, _, v', ⟨o', ho', _⟩, _⟩ := F₁.cell x _ e
      rw [hC1] at ho'; cases ho'
  have e1 : ∀ cl, ({ scope := scope, locals := H₃.objs.size, globals := env.globals, cells := cl, qual := env.qual, func := none, code := env.code, frame := env.frame, builtins := env.builtins } : Env) = { (cEnv scope env H₃.objs.size) with scope := scope, cells := cl } := fun _ => rfl
  exact codeAny_compStart_list loop (iter_self (s := { s with heap := pushCells (H₃.push { cls := .type "dict", data := .dict #[] }) scope.names, toks := tk }) z₄ loop)
end
end Mine
end
section
open PySem PySem.W PySem.Calls PyProof.Rows
set_option maxRecDepth 100000
set_option linter.unusedVariables false
namespace Mine

section
variable {y : Sy} {n : Nat} {env : Env} {W : Str → Prop} {ρ : Env1} {σ : St}
theorem After.letGo {h₀ : Heap} {D C : Addr} {ao : AO} {σ' : St} {h' h'' : Heap} (X : After y env ρ σ h₀ D C ao σ' h') (hs : Heap.SameBut C h' h'') :
    Inv y.B (σ'.put D ao) h'' ∧ Keep No σ h₀ (σ'.put D ao) h'' ∧ FrOK y.B env ρ (σ'.put D ao) h'' := by
  obtain ⟨m, ⟨o, es, ep, ho, hd, _⟩⟩ := X.c
  have nt : NoTup (· = C) h' := fun a o' mm e q => by
    subst q; rw [ho] at e; cases e
    rcases mm with ⟨_, vs, n, e'⟩ | ⟨_, vs, e'⟩ <;> rw [hd] at e' <;> cases e'
  have k : ∀ b o, b ≠ C → h'.get? b = some o → h''.get? b = some o := fun b o hb e => hs.extBut b o hb e
  obtain ⟨I, K⟩ := growBut0 X.inv nt (by rintro x rfl; exact X.cB) (by rintro x rfl; exact X.cS) k
  exact ⟨I, X.keep.transOff k X.cH, X.fr.keepX X.inv K nt X.cl X.cc⟩
noncomputable def EndC (Q : V → St → Prop) (acc : List V) (σ' : St) : Prop := ∀ a, σ' a = none → Q (.val (.ref a)) (σ'.put a (.list acc))
theorem E_comp1 {elt t iter : Expr} {ifs : List Expr} {scope : Scope} {pos : Pos} {Q : V → St → Prop} (hsc : scOKb scope env.kindOf = true)
    (h : EV y n env ρ σ iter (KCA y n env ρ scope t ifs (fun cenv => P1 y n cenv elt) (EndC Q)))
    (hs : ∀ x, foldedSetIterable iter env x = pure x := by intro _; rfl) : EV y n env ρ σ (.ListComp elt [⟨t, iter, ifs, 0⟩] scope pos) Q :=
  fun A hA s I F E => by
    rw [eval_ListComp]
    refine comp_all (use := none) (ScOK.of hsc) hs (fun J D cenv => _) (fun J D cenv => turn1) (fun cenv => P1 y n cenv elt) (fun J D cenv σ₁ h₁ X _ acc ρ σ post h => (CB_emit X h).tail) h hA I F ?_
    intro D C acc σ' h' tk X hR
    obtain ⟨m, hm⟩ := X.c
    refine ⟨m, hm, fun h'' hs => ?_⟩
    obtain ⟨I', K', _⟩ := X.letGo hs
    exact ⟨h'', tk, _, rfl, I', K', _, .val _, hR D X.dn⟩
theorem E_comp2 {elt t₁ i₁ t₂ i₂ : Expr} {scope : Scope} {pos : Pos} {Q : V → St → Prop} (hsc : scOKb scope env.kindOf = true)
    (h : EV y n env ρ σ i₁ (KCA y n env ρ scope t₁ [] (fun cenv => P2 y n cenv (cW scope) t₂ i₂ elt) (EndC Q)))
    (hs : ∀ x, foldedSetIterable i₁ env x = pure x := by intro _; rfl) (hs2 : ∀ cenv x, foldedSetIterable i₂ cenv x = pure x := by intro _ _; rfl) : EV y n env ρ σ (.ListComp elt [⟨t₁, i₁, [], 0⟩, ⟨t₂, i₂, [], 0⟩] scope pos) Q :=
  fun A hA s I F E => by
    rw [eval_ListComp]
    refine comp_all (use := none) (ScOK.of hsc) hs (fun J D cenv => _) (fun J D cenv => turn2o) (fun cenv => P2 y n cenv (cW scope) t₂ i₂ elt) (fun J D cenv σ₁ h₁ X _ acc ρ σ post h => CT_inner X (hs2 cenv) h) h hA I F ?_
    intro D C acc σ' h' tk X hR
    obtain ⟨m, hm⟩ := X.c
    refine ⟨m, hm, fun h'' hs => ?_⟩
    obtain ⟨I', K', _⟩ := X.letGo hs
    exact ⟨h'', tk, _, rfl, I', K', _, .val _, hR D X.dn⟩
theorem afterStore {x : Str} {px : Pos} {D C : Addr} {acc : List V} {σ' : St} {h' : Heap} {A : Around} {E : Value → Shared → Prop} {s : Shared} {tk : Nat} {Q : Fl → Env1 → St → Prop} (hk : env.kindOf x = some .local) (X : After y env ρ σ s.heap D C (.list acc) σ' h') (hR : Q .next (upd ρ x (.val (.ref D))) (σ'.put D (.list acc))) :
    wpAny (model y.prog y.w) A (assign (.Name x px) env (.ref D)) (fun _ s'' => ∃ m, s''.heap.Ns C m ∧ ∀ h', Heap.SameBut C s''.heap h' → Post y (Own env W) s σ (QF y.B env Q) .next { s'' with heap := h' }) E (sw s h' tk) := by
  refine wpAny_assign_Name ((store_local (s := sw s h' tk) (W := W) X.inv X.fr hk (.val _)).use fun _ h₂ tk₂ σ₂ I₂ K₂ ⟨e, F₂⟩ => ?_)
  subst e
  obtain ⟨m, o, es, ep, ho, r⟩ := X.c
  have ho₂ : h₂.get? C = some o := K₂.get C o ho X.cS fun q => by
    rcases q with q | ⟨x, _, q⟩
    · exact X.cl q.symm
    · exact X.cc _ _ q rfl
  refine ⟨m, ⟨o, es, ep, ho₂, r⟩, fun h₃ hs => ?_⟩
  have nt : NoTup (· = C) h₂ := fun a o' mm e q => by
    subst q; rw [ho₂] at e; cases e
    rcases mm with ⟨_, vs, n, e'⟩ | ⟨_, vs, e'⟩ <;> rw [r.1] at e' <;> cases e'
  have k : ∀ b o, b ≠ C → h₂.get? b = some o → h₃.get? b = some o := fun b o hb e => hs.extBut b o hb e
  obtain ⟨I, K⟩ := growBut0 I₂ nt (by rintro x rfl; exact X.cB) (by rintro x rfl; exact X.cS) k
  exact ⟨h₃, tk₂, _, rfl, I, (X.keep.w.trans K₂).transOff k X.cH, .next, _, trivial, F₂.keepX I₂ K nt X.cl X.cc, hR⟩
theorem X_comp1 {elt t iter : Expr} {ifs : List Expr} {scope : Scope} {pos px sp : Pos} {x : Str} {Q : Fl → Env1 → St → Prop} (hsc : scOKb scope env.kindOf = true)
    (hsw : swapsWith (.ListComp elt [⟨t, iter, ifs, 0⟩] scope pos) (some (.Name x px)) sp.line env = pure true) (hk : env.kindOf x = some .local)
    (h : EV y n env ρ σ iter (KCA y n env ρ scope t ifs (fun cenv => P1 y n cenv elt) (EndC fun v σ' => Q .next (upd ρ x v) σ')))
    (hs : ∀ x, foldedSetIterable iter env x = pure x := by intro _; rfl) : EX y n env W (.Assign [.Name x px] (.ListComp elt [⟨t, iter, ifs, 0⟩] scope pos) sp) ρ σ Q :=
  fun A hA s I F E => by
    rw [exec_Assign_Name_used _ _ _ _ hsw]
    refine wpAny_bind (wpAny_standAt (wpAny_bind ?_))
    show wpAny _ A (do let _ ← comprehension (.ListComp elt [⟨t, iter, ifs, 0⟩] scope pos) scope env (firstIterPos [⟨t, iter, ifs, 0⟩] pos) (newList []) false (eval iter env) (some (assign (.Name x px) env))) _ _ s
    refine wpAny_bind (wpAny_mono (comp_all (use := some (assign (.Name x px) env)) (Q := fun _ => Post y (Own env W) s σ (QF y.B env Q) .next)
      (ScOK.of hsc) hs (fun J D cenv => _) (fun J D cenv => turn1) (fun cenv => P1 y n cenv elt) (fun J D cenv σ₁ h₁ X _ acc ρ σ post h => (CB_emit X h).tail) h hA I F ?_) (fun _ s' q => wpAny_pure (wpAny_pure q)) fun _ _ e => e)
    intro D C acc σ' h' tk X hR
    show wpAny _ A (assign (.Name x px) env (.ref D)) _ _ _
    exact afterStore (W := W) (Q := Q) hk X (hR D X.dn)
theorem X_comp2 {elt t₁ i₁ t₂ i₂ : Expr} {scope : Scope} {pos px sp : Pos} {x : Str} {Q : Fl → Env1 → St → Prop} (hsc : scOKb scope env.kindOf = true)
    (hsw : swapsWith (.ListComp elt [⟨t₁, i₁, [], 0⟩, ⟨t₂, i₂, [], 0⟩] scope pos) (some (.Name x px)) sp.line env = pure true) (hk : env.kindOf x = some .local)
    (h : EV y n env ρ σ i₁ (KCA y n env ρ scope t₁ [] (fun cenv => P2 y n cenv (cW scope) t₂ i₂ elt) (EndC fun v σ' => Q .next (upd ρ x v) σ')))
    (hs : ∀ x, foldedSetIterable i₁ env x = pure x := by intro _; rfl) (hs2 : ∀ cenv x, foldedSetIterable i₂ cenv x = pure x := by intro _ _; rfl) : EX y n env W (.Assign [.Name x px] (.ListComp elt [⟨t₁, i₁, [], 0⟩, ⟨t₂, i₂, [], 0⟩] scope pos) sp) ρ σ Q :=
  fun A hA s I F E => by
    rw [exec_Assign_Name_used _ _ _ _ hsw]
    refine wpAny_bind (wpAny_standAt (wpAny_bind ?_))
    show wpAny _ A (do let _ ← comprehension (.ListComp elt [⟨t₁, i₁, [], 0⟩, ⟨t₂, i₂, [], 0⟩] scope pos) scope env (firstIterPos [⟨t₁, i₁, [], 0⟩, ⟨t₂, i₂, [], 0⟩] pos) (newList []) false (eval i₁ env) (some (assign (.Name x px) env))) _ _ s
    refine wpAny_bind (wpAny_mono (comp_all (use := some (assign (.Name x px) env)) (Q := fun _ => Post y (Own env W) s σ (QF y.B env Q) .next)
      (ScOK.of hsc) hs (fun J D cenv => _) (fun J D cenv => turn2o) (fun cenv => P2 y n cenv (cW scope) t₂ i₂ elt) (fun J D cenv σ₁ h₁ X _ acc ρ σ post h => CT_inner X (hs2 cenv) h) h hA I F ?_) (fun _ s' q => wpAny_pure (wpAny_pure q)) fun _ _ e => e)
    intro D C acc σ' h' tk X hR
    show wpAny _ A (assign (.Name x px) env (.ref D)) _ _ _
    exact afterStore (W := W) (Q := Q) hk X (hR D X.dn)
end
end Mine
end
section
open PySem PySem.W PySem.Calls PyProof.Rows
set_option maxRecDepth 100000
set_option linter.unusedVariables false
namespace Mine

noncomputable def bindR : List Str → List V → Env1
  | x :: xs, u :: us => upd (bindR xs us) x u
  | _, _ => fun _ => none
theorem bindL_out (ko : Str → Option NameKind) {z : Str} : ∀ (bs : List (Str × Value)) (m : Str → Option Value), z ∉ bs.map (·.1) → bindL ko bs m z = m z
  | [], m, _ => rfl
  | (x, v) :: r, m, h => by
    rw [List.map_cons, List.mem_cons, not_or] at h
    unfold bindL
    rw [bindL_out ko r _ h.2]
    split
    · simp [h.1]
    · rfl
theorem bindC_out (ko : Str → Option NameKind) {z : Str} : ∀ (bs : List (Str × Value)) (m : Str → Option Value), z ∉ bs.map (·.1) → bindC ko bs m z = m z
  | [], m, _ => rfl
  | (x, v) :: r, m, h => by
    rw [List.map_cons, List.mem_cons, not_or] at h
    unfold bindC
    rw [bindC_out ko r _ h.2]
    split
    · rfl
    · simp [h.1]
theorem zip_fst {α β : Type} : ∀ {xs : List α} {vs : List β} {z : α}, z ∈ (xs.zip vs).map (·.1) → z ∈ xs
  | x :: xs, v :: vs, z, h => by
    rw [List.zip_cons_cons, List.map_cons, List.mem_cons] at h
    rcases h with h | h
    · rw [h]; exact .head _
    · exact .tail _ (zip_fst h)
  | [], _, z, h => by simp at h
  | _ :: _, [], z, h => by simp at h
theorem bindL_get (ko : Str → Option NameKind) {h : Heap} : ∀ {xs : List Str} {us : List V} {vs : List Value} (m : Str → Option Value) {z : Str} {u : V}, xs.Nodup → RepL h vs us → bindR xs us z = some u → ko z = some .local → ∃ v, bindL ko (xs.zip vs) m z = some v ∧ RepV h v u
  | x :: xs, _, _, m, z, u, nd, .cons (v := v) (x := u') (vs := vs) (l := us) r rs, e, hk => by
    obtain ⟨n1, n2⟩ := List.nodup_cons.mp nd
    rw [bindR] at e
    rw [List.zip_cons_cons]
    unfold bindL
    by_cases hz : z = x
    · subst hz
      rw [upd_self] at e; cases e
      rw [if_pos hk, bindL_out ko _ _ fun q => n1 (zip_fst q)]
      exact ⟨v, by simp, r⟩
    · rw [upd_ne hz] at e
      exact bindL_get ko _ n2 rs e hk
  | [], _, _, m, z, u, nd, _, e, hk => by cases e
  | _ :: _, _, _, m, z, u, nd, .nil, e, hk => by cases e
theorem bindC_get (ko : Str → Option NameKind) {h : Heap} : ∀ {xs : List Str} {us : List V} {vs : List Value} (m : Str → Option Value) {z : Str} {u : V}, xs.Nodup → RepL h vs us → bindR xs us z = some u → ko z ≠ some .local → ∃ v, bindC ko (xs.zip vs) m z = some v ∧ RepV h v u
  | x :: xs, _, _, m, z, u, nd, .cons (v := v) (x := u') (vs := vs) (l := us) r rs, e, hk => by
    obtain ⟨n1, n2⟩ := List.nodup_cons.mp nd
    rw [bindR] at e
    rw [List.zip_cons_cons]
    unfold bindC
    by_cases hz : z = x
    · subst hz
      rw [upd_self] at e; cases e
      rw [if_neg hk, bindC_out ko _ _ fun q => n1 (zip_fst q)]
      exact ⟨v, by simp, r⟩
    · rw [upd_ne hz] at e
      exact bindC_get ko _ n2 rs e hk
  | [], _, _, m, z, u, nd, _, e, hk => by cases e
  | _ :: _, _, _, m, z, u, nd, .nil, e, hk => by cases e

noncomputable def fnOKb (scope : Scope) (names : List Str) : Bool :=
  scope.kind == .function && !scope.isCoroutine && !scope.isGenerator && scope.names.all (fun p => scope.names.lookup p.1 == some p.2 && p.2 != .free) && names.all (fun x => scope.names.lookup x == some .local || scope.names.lookup x == some .cell) && decide names.Nodup
structure Fn (y : Sy) (a : Addr) (names : List Str) (scope : Scope) (body : List Stmt) : Prop where
  at' : ∃ o fd, y.B.get? a = some o ∧ o.data = .func fd ∧ fd.scope = scope ∧ fd.body = .stmts body ∧ fd.closure = [] ∧ fd.globals = mainGlobals ∧ fd.builtins = builtinsNs ∧ y.B.CodeRec fd.code fd.qualname ∧ (∀ vals : List Value, vals.length = names.length → bindArgs fd ⟨vals, []⟩ = pure (names.zip vals))
  lim : y.B.NoLimit
theorem Fn.keeps {y : Sy} {a : Addr} {names : List Str} {scope : Scope} {body : List Stmt} (X : Fn y a names scope body) : Keeps y (.ref a) := by
  obtain ⟨o, fd, ho, hd, _⟩ := X.at'
  exact keeps_fn ho hd
theorem Heap.NoLimit.keeps' {h h' : Heap} (x : h.NoLimit) (hk : ∀ b o, h.get? b = some o → h'.get? b = some o) : h'.NoLimit := x.keeps hk

noncomputable def CallK (y : Sy) (n : Nat) (σ : St) (f : Value) (xs : List V) (Q : V → St → Prop) : Prop :=
  ∀ A, Room A n → ∀ s vs (R : Result → Shared → Prop), Inv y.B σ s.heap → RepL s.heap vs xs → (∀ v h' tk σ' x, Inv y.B σ' h' → Keep No σ s.heap σ' h' → RepV h' v x → Q x σ' → R (.ok (.ret v)) (sw s h' tk)) → codeAny (model y.prog y.w) A (.call f ⟨vs, []⟩) R s
theorem CallK.v {y : Sy} {n : Nat} {σ : St} {f : Value} {xs : List V} {Q : V → St → Prop} (h : CallK y n σ f xs Q) : CallV y n σ f xs Q :=
  fun A hA s vs I r E => wpAny_call (h A hA s vs _ I r fun v h' tk σ' x I' K' rv q => ⟨h', tk, σ', rfl, I', K', x, rv, q⟩)
noncomputable def kR (Q : V → St → Prop) (g : Fl) (_ : Env1) (σ' : St) : Prop := match g with
  | .ret x => Q x σ'
  | _ => Q (.val .none) σ'
theorem K_fn {y : Sy} {n : Nat} {σ : St} {a : Addr} {names : List Str} {scope : Scope} {body : List Stmt} {xs : List V} {Q : V → St → Prop} (X : Fn y a names scope body) (hok : fnOKb scope names = true) (hl : xs.length = names.length)
    (h : ∀ env, env.scope = scope → XS y n env (fun _ => True) body (bindR names xs) σ (kR Q)) : CallK y (n + 1) σ (.ref a) xs Q :=
  fun A hA s vs R I r hR => by
    obtain ⟨o, fd, ho, hd, hs, hb, hc, hg, hbl, hcd, hbind⟩ := X.at'
    subst hs
    unfold fnOKb at hok
    simp only [Bool.and_eq_true] at hok
    obtain ⟨⟨⟨⟨⟨hk, hco⟩, hgen⟩, hall⟩, hpar⟩, hnd⟩ := hok
    have hk : fd.scope.kind = .function := by simpa using hk
    have hnd : names.Nodup := of_decide_eq_true hnd
    have huniq : ∀ p ∈ fd.scope.names, fd.scope.names.lookup p.1 = some p.2 ∧ p.2 ≠ .free := fun p hp => by
      have := List.all_eq_true.mp hall p hp
      simpa using this
    have hz := r.length
    obtain ⟨k1, k2, k3⟩ := freshB I
    have fr : ∀ c, s.heap.objs.size ≤ c → y.B.get? c = none ∧ σ c = none ∧ s.heap.get? c = none := fun c hc => by
      have g : s.heap.get? c = none := by
        cases e : s.heap.get? c with
        | none => rfl
        | some o => exact absurd (Heap.lt_size e) (Nat.not_lt.mpr hc)
      refine ⟨?_, ?_, g⟩
      · cases e : y.B.get? c with
        | none => rfl
        | some o => rw [I.base _ _ e] at g; cases g
      · cases e : σ c with
        | none => rfl
        | some o => obtain ⟨o', ho, _⟩ := I.obj _ _ e; rw [ho] at g; cases g
    refine codeAny_call_cells (by have := hA.dp; exact ar319 this) (I.base _ _ ho) hd (X.lim.keeps I.base) (hcd.keeps I.base) hb (hbind vs (by rw [hz, hl])) hc ?_ ?_ (by simpa using hco) (by simpa using hgen) hk
    · intro x hx
      have hx' : x.1 ∈ names := zip_fst (List.mem_map_of_mem hx)
      have := List.all_eq_true.mp hpar _ hx'
      simp only [Bool.or_eq_true, beq_iff_eq] at this
      rcases this with q | q
      · exact .inl q
      · refine .inr ⟨q, ?_⟩
        obtain ⟨c, hc⟩ := lookup_of_mem (cellsFrom_has (n := s.heap.objs.size + 1) (acc := []) (.inl (mem_of_lookup q)))
        rw [hc]; rfl
    · intro s₁ C
      generalize hE : callEnvC fd s.heap.objs.size a = env at C
      have eS : env.scope = fd.scope := by rw [← hE]; rfl
      have eL : env.locals = s.heap.objs.size := by rw [← hE]; rfl
      have eG : env.globals = mainGlobals := by rw [← hE]; exact hg
      have eB : env.builtins = builtinsNs := by rw [← hE]; exact hbl
      have eC : env.cells = cellsFrom (s.heap.objs.size + 1) fd.scope.names [] := by rw [← hE]; rfl
      have eK : env.kindOf = fun x => fd.scope.names.lookup x := by funext x; show env.scope.names.lookup x = _; rw [eS]
      obtain ⟨h₁, tk₁, rfl, k⟩ := C.done
      obtain ⟨I₁, K₁⟩ := grow I k
      have r₁ := r.keep I K₁
      have cm : ∀ x c, env.cells.lookup x = some c → env.kindOf x = some .cell ∧ s.heap.objs.size ≤ c := fun x c e => by
        rw [eC] at e
        rcases mem_cellsFrom (mem_of_lookup e) with q | ⟨q, hc⟩
        · cases q
        · rw [eK]; exact ⟨(huniq _ q).1, by exact ar125 hc⟩
      have F : FrOK y.B env (bindR names xs) σ h₁ := by
        refine ⟨by rw [eS]; exact hk, eG, eB, by rw [eL]; exact k1, by rw [eL]; exact k2, ⟨_, C.toInCall.ns, fun x u hx e => ?_⟩, fun x c e => ?_, fun x hx => ?_, fun x x' c e e' => ?_, fun x c e hx => ?_⟩
        · exact bindL_get _ _ hnd r₁ e hx
        · obtain ⟨c1, c2⟩ := cm x c e
          obtain ⟨f1, f2, _⟩ := fr c c2
          refine ⟨f1, f2, _, C.cell x c e, fun u eu => ?_⟩
          exact bindC_get _ _ hnd r₁ eu (by rw [c1]; simp)
        · rw [eK] at hx
          rw [eC]
          refine lookup_of_mem (cellsFrom_has (.inl ?_))
          rcases hx with hx | hx
          · exact mem_of_lookup hx
          · exact absurd rfl (huniq _ (mem_of_lookup hx)).2
        · exact name_of_addr C.apart (mem_of_lookup e) (mem_of_lookup e')
        · rw [(cm x c e).1] at hx; cases hx
      have hAd : Room (A.deeper env) n := ⟨hA.hd, by have := hA.dp; show A.depth + 1 + 4 * n + 4 < recursionLimit; exact ar320 this, by have := hA.un; show A.units + 3 + 100 * (n + 1) < cLine; exact ar321 this⟩
      refine (h env eS (A.deeper env) hAd (sw s h₁ tk₁) I₁ F).use fun f h₂ tk₂ σ₂ I₂ K₂ ⟨g, ρ₂, hf, F₂, q⟩ => ?_
      have KK : Keep No σ s.heap σ₂ h₂ := K₁.transNew K₂ fun a q => .inr (by
        rcases q with rfl | ⟨x, _, e⟩
        · rw [eL]; exact k3
        · exact (fr _ (cm x a e).2).2.2)
      cases f <;> cases g <;> try exact hf.elim
      · exact hR _ h₂ tk₂ σ₂ _ I₂ KK (.val _) q
      · exact hR _ h₂ tk₂ σ₂ _ I₂ KK (.val _) q
      · exact hR _ h₂ tk₂ σ₂ _ I₂ KK (.val _) q
      · exact hR _ h₂ tk₂ σ₂ _ I₂ KK hf q
theorem C_fn {y : Sy} {n : Nat} {σ : St} {a : Addr} {names : List Str} {scope : Scope} {body : List Stmt} {xs : List V} {Q : V → St → Prop} (X : Fn y a names scope body) (hok : fnOKb scope names = true) (hl : xs.length = names.length)
    (h : ∀ env, env.scope = scope → XS y n env (fun _ => True) body (bindR names xs) σ (kR Q)) : CallV y (n + 1) σ (.ref a) xs Q := (K_fn X hok hl h).v
end Mine
end
section
open PySem PySem.W PySem.Calls PyProof.Rows
set_option maxRecDepth 100000
set_option linter.unusedVariables false
namespace Mine

structure ClsF (K : Frag) (C : Addr) : Prop where
  ga : findIn K (.ref C) "__getattribute__" = some (some (.builtin "object.__getattribute__"))
  gt : findIn K (.ref C) "__getattr__" = some none
  sa : findIn K (.ref C) "__setattr__" = some (some (.builtin "object.__setattr__"))
  hd : hasDictIn K C = true
  po : plainOver K C = true

theorem inst_at {B : Heap} {σ : St} {h : Heap} {a d C : Addr} {k : Nat} {f : Str → Option V} (I : Inv B σ h) (ea : σ a = some (.inst C d)) (ed : σ d = some (.attrs k f)) :
    ∃ od, InstAt h a (instObj C d) C (some od) ∧ h.get? d = some od ∧ RepO h od (.attrs k f) := by
  obtain ⟨o, ho, r⟩ := I.obj _ _ ea
  obtain ⟨od, hod, rd⟩ := I.obj _ _ ed
  have r : o = instObj C d := r
  subst r
  exact ⟨od, ⟨ho, rfl, rfl, hod⟩, hod, rd⟩
theorem nsFind_list (es : Array DictEntry) (name : Str) : nsFind es name = (es.toList.find? (·.key.isStr name)).map (·.val) := by
  unfold nsFind findBy
  rw [← Array.find?_toList]
theorem lookIn_attrs {h : Heap} {od : Obj} {k : Nat} {f : Str → Option V} (r : RepO h od (.attrs k f)) (name : Str) : match f name with
    | some u => ∃ v, lookIn name od = some (some v) ∧ RepV h v u
    | none => lookIn name od = some none := by
  obtain ⟨es, ep, hd, _, hs, hf⟩ := r
  have q := hf name
  rw [nsFind_list] at q
  have nr : es.toList.any (·.refKey) = false := by
    rw [List.any_eq_false]
    intro e he
    obtain ⟨n, t, h⟩ := hs e (by simpa using he)
    simp [DictEntry.refKey, h]
  unfold lookIn
  rw [hd]
  dsimp only
  cases e : es.toList.find? (·.key.isStr name) with
  | some en =>
    rw [e] at q
    cases ef : f name with
    | some u => rw [ef] at q; exact ⟨_, rfl, q⟩
    | none => rw [ef] at q; exact q.elim
  | none =>
    rw [e] at q
    cases ef : f name with
    | some u => rw [ef] at q; exact q.elim
    | none => simp only [nr, Bool.false_eq_true, if_false]

noncomputable def V.handed : V → Bool
  | .val v => handedIn v
  | _ => true
theorem RepV.handed {h : Heap} {v : Value} {u : V} (r : RepV h v u) (e : u.handed = true) : handedIn v = true := by
  cases r <;> first | rfl | exact e

section
variable {y : Sy} {n : Nat} {env : Env} {W : Str → Prop} {ρ : Env1} {σ : St} {K : Frag} {C : Addr}
inductive KAttr (C : Addr) (name : Str) (Q : V → St → Prop) (x : V) (σ' : St) : Prop
  | mk (a d : Addr) (k : Nat) (f : Str → Option V) (u : V) (e : x = .val (.ref a)) (ea : σ' a = some (.inst C d)) (ed : σ' d = some (.attrs k f)) (ef : f name = some u) (hh : u.handed = true) (q : Q u σ')
theorem E_attr {o : Expr} {name : Str} {pos : Pos} {Q : V → St → Prop} (X : K.In y.B) (hc : ClsF K C)
    (h : EV y n env ρ σ o (KAttr C name Q)) (hf : findIn K (.ref C) name = some none)
    (he : eval (.Attribute o name pos) env = (do
      let x ← eval o env
      standAt pos.atName
      let r ← holding [x] (getAttr x name true)
      letTemporaryGo o x r
      pure r) := by with_unfolding_all rfl) : EV y n env ρ σ (.Attribute o name pos) Q :=
  fun A hA s I F E => by
    refine Attribute_any_ ((h A hA s I F).use fun v h₁ tk σ₁ I₁ K₁ ⟨x, r, a, d, k, f, u, ex, ea, ed, ef, hh, q⟩ => ?_) he
    subst ex
    cases r
    obtain ⟨od, Ia, hod, rd⟩ := inst_at I₁ ea ed
    have lk := lookIn_attrs rd name
    rw [ef] at lk
    obtain ⟨v, lk, rv⟩ := lk
    exact get_value (s := sw s h₁ tk) (X.keeps I₁.base) Ia hc.ga (findObj_own hc.hd hf rfl lk) (rv.handed hh) ⟨h₁, tk + 1, σ₁, rfl, I₁, K₁, u, rv, q⟩
theorem G_inst {a d f₀ : Addr} {k : Nat} {f : Str → Option V} {name : Str} (X : K.In y.B) (hc : ClsF K C) (ea : σ a = some (.inst C d)) (ed : σ d = some (.attrs k f)) (hm : findIn K (.ref C) name = some (some (.ref f₀))) (ht : typeIn K (.ref f₀) = some (.type "function")) (ef : f name = none) :
    GetM y σ (.val (.ref a)) name (.ref f₀) [.val (.ref a)] := fun A s v pl E Q I r hq => by
  cases r
  obtain ⟨od, Ia, hod, rd⟩ := inst_at I ea ed
  have lk := lookIn_attrs rd name
  rw [ef] at lk
  exact method_fn (X.keeps I.base) Ia hc.ga hc.gt hm ht (by show (lookIn name od).map _ = _; rw [lk]; rfl) (hq _ (.cons (.val _) .nil))

noncomputable def bump (k : Nat) (f : Str → Option V) (name : Str) : Nat := if (f name).isSome then k else k + 1
theorem bump_le (k : Nat) (f : Str → Option V) (name : Str) : bump k f name ≤ k + 1 := by unfold bump; split <;> (first | exact ar322 | exact Nat.le_refl _)
theorem putName_attrs {h : Heap} {od : Obj} {k : Nat} {f : Str → Option V} {name : Str} {v : Value} {u : V} {hash : Int} {tk : Tok} (r : RepO h od (.attrs k f)) (rv : RepV h v u) : RepO h (od.putName name hash (.str name tk) v) (.attrs (bump k f name) fun x => if x = name then some u else f x) := by
  obtain ⟨es, ep, hd, hk, hs, hf⟩ := r
  obtain ⟨c, d, dt, sl⟩ := od
  subst hd
  cases hi : es.findIdx? (·.key.isStr name) with
  | some i =>
    refine ⟨es.modify i fun e => { e with val := v }, ep, by simp only [Obj.putName_eq, Obj.putNameByArray, hi], by rw [Array.size_modify]; unfold bump; split <;> (first | assumption | exact ar107 hk), hs.modify _ _, fun x => ?_⟩
    rw [show nsFind (es.modify i fun e => { e with val := v }) x = if x = name then some v else nsFind es x from findBy_modify (fun n v => v.isStr n) Value.isStr_inj es name x v i hi]
    by_cases e : x = name
    · simp only [e, if_true]; exact rv
    · simp only [e, if_false]; exact hf x
  | none =>
    have fn : f name = none := by
      have q := hf name
      have : nsFind es name = none := by
        unfold nsFind
        rw [findBy_of_findIdx?]
        rw [show (es.findIdx? fun e => Value.isStr e.key name) = none from hi]
      rw [this] at q
      cases ef : f name with
      | none => rfl
      | some u => rw [ef] at q; exact q.elim
    refine ⟨es.push ⟨hash, .str name tk, v⟩, ep + 1, by simp only [Obj.putName_eq, Obj.putNameByArray, hi], by rw [Array.size_push]; unfold bump; rw [fn]; simp; assumption, hs.push _ _ _ _, fun x => ?_⟩
    rw [show nsFind (es.push ⟨hash, .str name tk, v⟩) x = if x = name then some v else nsFind es x from findBy_push (fun n v => v.isStr n) es name x _ _ v (fun y => by
      show (name == y) = decide (y = name)
      by_cases h : y = name
      · subst h; simp
      · have : ¬ name = y := fun e => h e.symm
        simp [h, this]) hi]
    by_cases e : x = name
    · simp only [e, if_true]; exact rv
    · simp only [e, if_false]; exact hf x
theorem osa_attr {A : Around} {R : Result → Shared → Prop} {s : Shared} {a d : Addr} {k : Nat} {f : Str → Option V} {name : Str} {t₀ : Tok} {v : Value} {u : V} (X : K.In y.B) (hc : ClsF K C) (I : Inv y.B σ s.heap) (ea : σ a = some (.inst C d)) (ed : σ d = some (.attrs k f)) (hf : findIn K (.ref C) name = some none) (hk : k ≤ 1000) (rv : RepV s.heap v u)
    (h : ∀ h' tk, Inv y.B (σ.put d (.attrs (bump k f name) fun x => if x = name then some u else f x)) h' → Keep No σ s.heap (σ.put d (.attrs (bump k f name) fun x => if x = name then some u else f x)) h' → R (.ok (.ret .none)) (sw s h' tk)) :
    codeAny (model y.prog y.w) A (.call (.builtin "object.__setattr__") ⟨[.ref a, .str name t₀, v], []⟩) R s := by
  obtain ⟨od, Ia, hod, rd⟩ := inst_at I ea ed
  have Xh := X.keeps I.base
  have ht : takerIn K C name = some none := by unfold takerIn; rw [hf]; rfl
  refine osa_open Xh Ia hc.po ht fun b => ?_
  obtain ⟨cd, hcd, hd'⟩ := any_some hc.hd
  have hx : s.heap.get? a = some (instObj C d) := Ia.at_
  refine wpAny_bind (wpAny_pure (wpAny_bind (wpAny_bind (wpAny_loadPart hx (wpAny_bind ((looks_clsIn Xh hcd).here ?_))))))
  rw [hd']
  refine wpAny_pure (a := some d) (wpAny_bind (wpAny_pure (wpAny_bind ?_)))
  unfold nsSet
  have rd' := rd
  obtain ⟨es, ep, hdd, hkk, hs, hff⟩ := rd
  refine wpAny_bind (wpAny_bind (wpAny_askSetting (wpAny_pure (wpAny_bind (wpAny_mkText (wpAny_bind (wpAny_loadPart hod ?_)))))))
  rw [hdd]
  dsimp only
  have nr : es.any (·.refKey) = false := by
    rw [Array.any_eq_false']; intro e he; obtain ⟨n, t, h⟩ := hs e he; simp [DictEntry.refKey, h]
  rw [aRefKeyMayBeTheName_at, nr, Bool.and_false, if_neg (by decide)]
  refine wpAny_updatePart hod ?_
  show wpAny _ _ _ _ _ (sw s (s.heap.update d (Obj.putName name (if name.cps.isEmpty = true then 0 else reduceHash ((model y.prog y.w).w.params.strHash name.cps)) (.str name s.toks) v)) (s.toks + 1))
  generalize (if name.cps.isEmpty = true then 0 else reduceHash ((model y.prog y.w).w.params.strHash name.cps)) = hash
  have ro := putName_attrs (name := name) (hash := hash) (tk := s.toks) rd' rv
  have ro' := ro
  obtain ⟨es', ep', hd₂, hk₂, hs₂, hf₂⟩ := ro
  have hnew : (s.heap.update d (Obj.putName name hash (.str name s.toks) v)).get? d = some (od.putName name hash (.str name s.toks) v) := Heap.get?_update_self _ hod (Obj.isFreed_of_dict hd₂)
  refine wpAny_bind (wpAny_lookBehind (s := sw s (s.heap.update d (Obj.putName name hash (.str name s.toks) v)) (s.toks + 1)) hnew (by rw [hd₂]; exact pastItsLine_dict (by have := bump_le k f name; rw [sizeLine_eq]; exact ar324 hk hk₂ this)) ?_)
  obtain ⟨I₁, K₁⟩ := change (x' := .attrs (bump k f name) fun x => if x = name then some u else f x) I ed (fun b o hb eb => (Heap.get?_update_other _ _ (Ne.symm hb)).trans eb) hnew (fun im => ro'.mono im)
  exact wpAny_pure (h _ _ I₁ K₁)
theorem set_attr {A : Around} {E : Value → Shared → Prop} {s : Shared} {a d : Addr} {k : Nat} {f : Str → Option V} {name : Str} {v : Value} {u : V} {Q : Unit → Shared → Prop} (X : K.In y.B) (hc : ClsF K C) (I : Inv y.B σ s.heap) (ea : σ a = some (.inst C d)) (ed : σ d = some (.attrs k f)) (hf : findIn K (.ref C) name = some none) (hk : k ≤ 1000) (rv : RepV s.heap v u)
    (h : ∀ h' tk, Inv y.B (σ.put d (.attrs (bump k f name) fun x => if x = name then some u else f x)) h' → Keep No σ s.heap (σ.put d (.attrs (bump k f name) fun x => if x = name then some u else f x)) h' → Q () (sw s h' tk)) :
    wpAny (model y.prog y.w) A (setAttr (.ref a) name v) Q E s := by
  obtain ⟨od, Ia, hod, rd⟩ := inst_at I ea ed
  exact set_plain (X.keeps I.base) Ia hc.sa (osa_attr (s := { s with toks := s.toks + 1 }) X hc I ea ed hf hk rv h)
inductive KTA (C : Addr) (name : Str) (u : V) (R : Env1 → St → Prop) (ρ : Env1) (x : V) (σ' : St) : Prop
  | mk (a d : Addr) (k : Nat) (f : Str → Option V) (e : x = .val (.ref a)) (ea : σ' a = some (.inst C d)) (ed : σ' d = some (.attrs k f)) (hk : k ≤ 1000) (q : R ρ (σ'.put d (.attrs (bump k f name) fun x => if x = name then some u else f x)))
theorem T_attr {o : Expr} {name : Str} {pos : Pos} {u : V} {R : Env1 → St → Prop} (X : K.In y.B) (hc : ClsF K C)
    (h : EV y n env ρ σ o (KTA C name u R ρ)) (hf : findIn K (.ref C) name = some none) :
    AT y n env W (.Attribute o name pos) u ρ σ R :=
  fun A hA s v I F r E => by
    rw [assign_Attribute]
    refine wpAny_bind (wpAny_holding ((h A hA s I F).use fun ov h₁ tk σ₁ I₁ K₁ ⟨x, rx, a, d, k, f, ex, ea, ed, hk, q⟩ => wpAny_bind (wpAny_standAt (wpAny_bind (wpAny_holding ?_)))))
    subst ex
    cases rx
    refine set_attr (s := sw s h₁ tk) X hc I₁ ea ed hf hk (r.keep I K₁) fun h₂ tk₂ I₂ K₂ => ?_
    exact wpAny_release ⟨h₂, tk₂, _, rfl, I₂, (K₁.trans0 K₂).w, ρ, (F.keep I K₁).keep I₁ K₂, q⟩
theorem list_set {A : Around} {E : Value → Shared → Prop} {s : Shared} {a : Addr} {vs : List Value} {c : Nat} {k : Int} {t : Tok} {v : Value} {j : Nat} {Q : Unit → Shared → Prop} (ho : s.heap.get? a = some (listObj vs c)) (hz : vs.length ≤ 1000000) (hj : seqIndex? k vs.length = some j)
    (h : Q () { s with heap := s.heap.update a (Obj.mapSeq (·.setIfInBounds j v)) }) : wpAny (model y.prog y.w) A (setItem (.ref a) (.int k t) v) Q E s := by
  have hl : s.heap.IsList a vs.toArray := ⟨_, ho, rfl, c, rfl⟩
  have b := seqIndex_bounds hj
  have ex : vs.toArray[j]? = some vs[j] := by simp [b.2.2.1]
  unfold setItem
  try with_reducible refine wpAny_holding ?_
  first | refine wpAny_bind (wpAny_pure ?_) | skip
  refine wpAny_bind (wpAny_sequenceKey hl.typeIs (by decide) ?_)
  refine wpAny_bind (wpAny_callSpecial?_slot (name := Str.ofString "__setitem__") hl.typeIs slot_list_setitem
    (wpAny_call_entry slot_list_setitem hl.typeIs entry_list_setitem ?_ (args_list_setitem _ _ _)))
  show wpAny _ _ (Builtin.List.listSubscript? (.int k t) >>= _) _ _ s
  refine wpAny_bind (wpAny_listSubscript_int (by unfold Builtin.List.listFitsIndex; simp only [Bool.and_eq_true, decide_eq_true_eq]; exact ar325 hz b) ?_)
  have fin : wpAny (model y.prog y.w) A.in1 (setSeqItemAt a j v >>= fun _ => ret .none) (fun fin s' => ∃ u, fin = .done (.ret u) ∧ wpAny (model y.prog y.w) A (pure ()) Q E s') E s := by
    refine wpAny_bind (wpAny_setSeqItemAt ho rfl ?_)
    exact wpAny_pure ⟨.none, rfl, wpAny_pure h⟩
  by_cases hk : 0 ≤ k
  · obtain ⟨i, rfl⟩ := Int.eq_ofNat_of_zero_le hk
    have : j = i := by have := b.2.2.2.1 hk; simpa using this
    subst this
    show wpAny _ _ ((seqItemAt a j >>= fun r => pure (r.map (j, ·))) >>= _) _ _ s
    refine wpAny_bind (wpAny_bind (wpAny_seqItemAt ho rfl (wpAny_pure ?_)))
    rw [ex]
    refine wpAny_mono fin (fun f s' ⟨u, e, q⟩ => ?_) fun _ _ e => e
    subst e
    exact ⟨u, rfl, q⟩
  · obtain ⟨i, rfl⟩ : ∃ i : Nat, k = Int.negSucc i := by
      cases k with
      | ofNat n => exact absurd (Int.natCast_nonneg n) hk
      | negSucc n => exact ⟨n, rfl⟩
    show wpAny _ _ ((Builtin.List.listItems (.ref a) >>= fun xs => pure ((seqIndex? (Int.negSucc i) xs.size).bind fun i => xs[i]?.map (i, ·))) >>= _) _ _ s
    refine wpAny_bind (wpAny_bind ?_)
    show wpAny _ _ (seqItems? (.ref a) >>= _) _ _ s
    refine wpAny_bind (wpAny_seqItems ho rfl (wpAny_pure (wpAny_pure ?_)))
    rw [List.size_toArray, hj]
    simp only [Option.bind_some, ex, Option.map_some]
    refine wpAny_mono fin (fun f s' ⟨u, e, q⟩ => ?_) fun _ _ e => e
    subst e
    exact ⟨u, rfl, q⟩
theorem RepL.set {h : Heap} {v : Value} {u : V} (r : RepV h v u) {vs : List Value} {l : List V} (rl : RepL h vs l) (j : Nat) : RepL h (vs.set j v) (l.set j u) :=
  rl.ind (P := fun vs l => ∀ j, RepL h (vs.set j v) (l.set j u)) (fun _ => .nil) (fun _ _ _ _ a b ih j => by
    cases j with
    | zero => exact .cons r b
    | succ j => exact .cons a (ih j)) j
inductive KTS (ρ : Env1) (u : V) (R : Env1 → St → Prop) (x z : V) (σ₂ : St) : Prop
  | mk (a : Addr) (l : List V) (k : Int) (j : Nat) (e : x = .val (.ref a)) (e' : z = .int k) (ea : σ₂ a = some (.list l)) (hl : l.length ≤ 1000000) (hj : seqIndex? k l.length = some j) (h : R ρ (σ₂.put a (.list (l.set j u))))
noncomputable def kTSub (y : Sy) (n : Nat) (env : Env) (ρ : Env1) (i : Expr) (u : V) (R : Env1 → St → Prop) (x : V) (σ₁ : St) : Prop := EV y n env ρ σ₁ i (KTS ρ u R x)
theorem T_sub {o i : Expr} {pos : Pos} {u : V} {R : Env1 → St → Prop}
    (h : EV y n env ρ σ o (kTSub y n env ρ i u R))
    (hi : ∀ z, assign (.Subscript o i pos) env z = (do
      let ov ← holding [z] (eval o env)
      let iv ← holding [z, ov] (eval i env)
      standAt pos
      holding [z, ov, iv] (setItem ov iv z)
      release [z, ov, iv] []) := by intro _; rfl) : AT y n env W (.Subscript o i pos) u ρ σ R :=
  fun A hA s v I F r E => by
    rw [hi]
    refine wpAny_bind (wpAny_holding ((h A hA s I F).use fun ov h₁ tk σ₁ I₁ K₁ ⟨x, rx, q⟩ => ?_))
    refine wpAny_bind (wpAny_holding ((q A hA (sw s h₁ tk) I₁ (F.keep I K₁)).use fun iv h₂ tk₂ σ₂ I₂ K₂ ⟨z, rz, a, l, k, j, ex, ez, ea, hl, hj, q'⟩ => ?_))
    subst ex ez
    cases rx; cases rz
    obtain ⟨vs, c, ho, rl⟩ := list_obj I₂ ea
    have zl := rl.length
    refine wpAny_bind (wpAny_standAt (wpAny_bind (wpAny_holding ?_)))
    have rv := (r.keep I K₁).keep I₁ K₂
    refine list_set (s := sw s h₂ tk₂) ho (by exact ar326 hl zl) (by rw [zl]; exact hj) ?_
    have hS := Heap.get?_update_self (Obj.mapSeq (·.setIfInBounds j v)) ho rfl
    have ee : (listObj vs c).mapSeq (·.setIfInBounds j v) = listObj (vs.set j v) c := by simp [Obj.mapSeq, listObj]
    rw [ee] at hS
    obtain ⟨I₃, K₃⟩ := change (x' := .list (l.set j u)) I₂ ea (fun b o hb eb => (Heap.get?_update_other _ _ (Ne.symm hb)).trans eb) hS (fun im => ⟨_, c, rfl, (rl.set rv j).mono im⟩)
    exact wpAny_release ⟨_, _, _, rfl, I₃, ((K₁.trans0 K₂).trans0 K₃).w, ρ, ((F.keep I K₁).keep I₁ K₂).keep I₂ K₃, q'⟩
inductive KTI (R : Env1 → St → Prop) (ρ : Env1) (x z : V) (σ₂ : St) : Prop
  | mk (a : Addr) (k : Int) (m : Nat) (e : x = .val (.ref a)) (ez : z = .int k) (ea : σ₂ a = some (.idict m)) (hm : m ≤ 1000000) (q : R ρ (σ₂.put a (.idict (m + 1))))
noncomputable def kTI (y : Sy) (n : Nat) (env : Env) (i : Expr) (R : Env1 → St → Prop) (ρ : Env1) (x : V) (σ₁ : St) : Prop := EV y n env ρ σ₁ i (KTI R ρ x)
theorem T_idict {o i : Expr} {pos : Pos} {u : V} {R : Env1 → St → Prop}
    (h : EV y n env ρ σ o (kTI y n env i R ρ))
    (hi : ∀ z, assign (.Subscript o i pos) env z = (do
      let ov ← holding [z] (eval o env)
      let iv ← holding [z, ov] (eval i env)
      standAt pos
      holding [z, ov, iv] (setItem ov iv z)
      release [z, ov, iv] []) := by intro _; rfl) : AT y n env W (.Subscript o i pos) u ρ σ R :=
  fun A hA s v I F r E => by
    rw [hi]
    refine wpAny_bind (wpAny_holding ((h A hA s I F).use fun ov h₁ tk σ₁ I₁ K₁ ⟨x, rx, q⟩ => ?_))
    refine wpAny_bind (wpAny_holding ((q A hA (sw s h₁ tk) I₁ (F.keep I K₁)).use fun iv h₂ tk₂ σ₂ I₂ K₂ ⟨z, rz, a, k, m, ex, ez, ea, hm, q'⟩ => ?_))
    subst ex ez
    cases rx; cases rz
    obtain ⟨od, ho, hc, es, ep, hd, hsz, hk⟩ := I₂.obj _ _ ea
    refine wpAny_bind (wpAny_standAt (wpAny_bind (wpAny_holding ?_)))
    have hM : h₂.IntMap a (fun k => findBy Value.isInt es k) := ⟨od, es, ep, ho, hc, hd, hk, fun _ => rfl⟩
    have hL : h₂.DictLe a m := fun o' es' ep' ho' hd' => by rw [ho] at ho'; cases ho'; rw [hd] at hd'; cases hd'; exact hsz
    refine wpAny_setItem_intMap_le (s := sw s h₂ tk₂) hM hL (by rw [sizeLine_eq]; exact ar327 hm) fun h₃ hM₃ hL₃ hs₃ => ?_
    obtain ⟨o₃, es₃, ep₃, ho₃, hc₃, hd₃, hk₃, _⟩ := hM₃
    obtain ⟨I₃, K₃⟩ := change (x' := .idict (m + 1)) I₂ ea (fun b o hb eb => hs₃.extBut b o hb eb) ho₃ (fun im => ⟨hc₃, es₃, ep₃, hd₃, hL₃ _ _ _ ho₃ hd₃, hk₃⟩)
    exact wpAny_release ⟨_, _, _, rfl, I₃, ((K₁.trans0 K₂).trans0 K₃).w, ρ, ((F.keep I K₁).keep I₁ K₂).keep I₂ K₃, q'⟩
theorem E_dict0 {pos : Pos} {Q : V → St → Prop} (h : ∀ a, σ a = none → Q (.val (.ref a)) (σ.put a (.idict 0))) : EV y n env ρ σ (.Dict [] [] pos) Q :=
  fun A hA s I F E => by
    refine wpAny_Dict_empty ?_
    obtain ⟨I₁, K₁, fr⟩ := push (x := .idict 0) I (o := { cls := .type "dict", data := .dict #[] }) rfl ⟨rfl, #[], 0, rfl, Nat.le_refl _, fun e he => by simp at he⟩
    exact ⟨_, _, _, rfl, I₁, K₁, _, .val _, h _ fr⟩
end
end Mine
end
section
open PySem PySem.W PySem.Calls PyProof.Rows
set_option maxRecDepth 100000
set_option linter.unusedVariables false
namespace Mine
section
variable {y : Sy} {n : Nat} {σ : St} {K : Frag} {C : Addr}
theorem keeps_cls (X : K.In y.B) {f : Value} (hk : keepIn K f = true) : Keeps y f := fun h k => keeps_K hk h (X.keeps k)
theorem C_make {xs : List V} {Q : V → St → Prop} {fI : Addr} (X : K.In y.B) (hm : makesIn K C = true) (hi : findIn K (.ref C) "__init__" = some (some (.ref fI))) (hf : typeIn K (.ref fI) = some (.type "function"))
    (h : ∀ a d, σ a = none → σ d = none → a ≠ d → CallK y n ((σ.put d (.attrs 0 fun _ => none)).put a (.inst C d)) (.ref fI) (.val (.ref a) :: xs) fun r σ' => r = .val .none ∧ Q (.val (.ref a)) σ') : CallV y (n + 1) σ (.ref C) xs Q :=
  fun A hA s vs I r E => by
    refine wpAny_call ?_
    obtain ⟨hh, g, dr, t, os⟩ := s
    refine make_core (makes_of (X.keeps I.base) hm) (looks_findIn (X.keeps I.base) hi) (fun self => bind_fn (X.keeps I.base) self hf) (.inl rfl) ?_
    obtain ⟨I₁, K₁, f₁⟩ := push (x := .attrs 0 fun _ => none) I (o := emptyDict) rfl ⟨#[], 0, rfl, Nat.le_refl _, fun e he => by simp at he, fun x => by simp [nsFind, findBy]⟩
    obtain ⟨I₂, K₂, f₂⟩ := push (x := .inst C hh.objs.size) I₁ (o := instObj C hh.objs.size) rfl rfl
    rw [Heap.size_push] at I₂ K₂ f₂
    have hne : hh.objs.size + 1 ≠ hh.objs.size := by exact ar328
    rw [St.put_ne hne] at f₂
    have hA' : Room (A.under (.builtin "type.__call__" ⟨.ref C :: vs, []⟩)) n := ⟨hA.hd, by
      have := hA.dp
      have e : (Code.builtin "type.__call__" ⟨.ref C :: vs, []⟩).weight = 1 := by with_unfolding_all rfl
      show A.depth + (Code.builtin "type.__call__" ⟨.ref C :: vs, []⟩).weight + 4 * n + 4 < recursionLimit
      rw [e]; exact ar320 this, by
      have := hA.un
      have e : (Code.builtin "type.__call__" ⟨.ref C :: vs, []⟩).cUnits = 1 := by with_unfolding_all rfl
      show A.units + (Code.builtin "type.__call__" ⟨.ref C :: vs, []⟩).cUnits + 100 * (n + 1) < cLine
      rw [e]; exact ar329 this⟩
    refine h (hh.objs.size + 1) hh.objs.size f₂ f₁ hne _ hA' ⟨(hh.push emptyDict).push (instObj C hh.objs.size), g, dr, t, os⟩ (.ref (hh.objs.size + 1) :: vs) _ I₂ (.cons (.val _) ((r.keep I K₁).keep I₁ K₂)) ?_
    rintro v h' tk σ' x I' K' rv ⟨e, q⟩
    subst e
    cases rv
    exact ⟨rfl, h', tk, σ', rfl, I', (K₁.trans0 K₂).trans0 K', _, .val _, q⟩
end
end Mine
end
section
open PySem PySem.W PyProof.Rows
namespace Mine

noncomputable def runG (thr ok : Thread → Bool) (st : SharedT → Thread → Option (SharedT × Thread)) (n : Nat) : SharedT → Thread → Option SharedT :=
  @Nat.rec (fun _ => SharedT → Thread → Option SharedT) (fun _ _ => none)
    (fun _ ih s t => @Bool.rec (fun _ => Option SharedT) (@Bool.rec (fun _ => Option SharedT) none (@Option.rec (SharedT × Thread) (fun _ => Option SharedT) none (fun x => ih x.1 x.2) (st s t)) (ok t)) (some s) (thr t)) n
noncomputable def treeOfL (l : List Obj) : Nat → BT → BT :=
  @List.rec Obj (fun _ => Nat → BT → BT) (fun _ t => t) (fun o _ ih n t => ih (n + 1) (t.ins n o)) l
theorem runG_top {tb : String → Option Builtin} {p : Program} {w : World} {n₀ : Nat} {ann : Option Value} : ∀ (n : Nat) (s : SharedT) (t : Thread) (s' : SharedT), runG through (stepOk n₀ ann) (stepT (denote tb) p w) n s t = some s' → topRun tb p w n₀ ann n s.abs t = some s'.abs
  | 0, _, _, _, h => by cases h
  | n + 1, s, t, s', h => by
    have h : @Bool.rec (fun _ => Option SharedT) (@Bool.rec (fun _ => Option SharedT) none (@Option.rec (SharedT × Thread) (fun _ => Option SharedT) none (fun x => runG through (stepOk n₀ ann) (stepT (denote tb) p w) n x.1 x.2) (stepT (denote tb) p w s t)) (stepOk n₀ ann t)) (some s) (through t) = some s' := h
    unfold topRun
    cases ht : through t with
    | true => rw [ht] at h; cases h; rfl
    | false =>
      rw [ht] at h
      cases hk : stepOk n₀ ann t with
      | false => rw [hk] at h; cases h
      | true =>
        rw [hk] at h
        cases hs : stepT (denote tb) p w s t with
        | none => rw [hs] at h; cases h
        | some x =>
          rw [hs] at h
          obtain ⟨s₂, t₂⟩ := x
          have e := stepT_spec hs
          rw [e]
          exact runG_top n s₂ t₂ s' h

noncomputable def stFn : Option Stmt → Arguments × List Stmt × Scope
  | some (.FunctionDef _ a b _ _ _ s _ _ _) => (a, b, s)
  | _ => (default, [], default)
noncomputable def stCls : Option Stmt → List Stmt
  | some (.ClassDef _ _ _ b _ _ _ _ _ _ _) => b
  | _ => []
noncomputable abbrev pwBody : List Stmt := PySem.Challenge.pw_no0312_01.main.body
noncomputable def top (i : Nat) : Arguments × List Stmt × Scope := stFn (pwBody[i]?)
noncomputable def meth (i j : Nat) : Arguments × List Stmt × Scope := stFn ((stCls (pwBody[i]?))[j]?)
noncomputable def isText (q : Str) : Option Value → Bool
  | some (.str x _) => decide (x = q)
  | _ => false
noncomputable def codeOk (h : Heap) (cd : Value) (q : Str) : Bool := match cd with
  | .ref c => match h.get? c with
    | some ⟨_, _, .fields vs, _⟩ => isText q (vs.toList[1]?)
    | _ => false
  | _ => false
noncomputable abbrev FnV := Option (Arguments × FuncBody × Scope × List (Str × Addr) × Addr × Addr × Value × Value × Bool)
noncomputable def fnView (h : Heap) (a : Addr) : FnV := match h.get? a with
  | some ⟨_, _, .func fd, _⟩ => some (fd.params, fd.body, fd.scope, fd.closure, fd.globals, fd.builtins, fd.defaults, fd.kwdefaults, codeOk h fd.code fd.qualname)
  | _ => none
noncomputable def fnSays (clo : List (Str × Addr)) (x : Arguments × List Stmt × Scope) : FnV := some (x.1, .stmts x.2.1, x.2.2, clo, 3, 0, .none, .none, true)
noncomputable def fragOf (h : Heap) (as : List Addr) : Frag := as.filterMap fun a => (h.get? a).map fun o => (a, o)
noncomputable def fnAddrs : List Addr := [28, 35, 40, 47, 54, 61, 66, 71, 78, 85, 92, 99, 106, 309, 314, 319, 402, 409, 414, 421, 428, 433, 438, 443, 448, 453, 458, 465, 470, 120, 127, 134, 141, 148, 155, 162, 169, 176, 183, 190, 197, 204, 211, 218, 225, 232, 239, 274, 335, 342, 349, 356, 363, 370, 375, 382, 389]
noncomputable def fnVals : List FnV := [fnSays [] (top 2), fnSays [] (top 3), fnSays [] (top 4), fnSays [] (top 6), fnSays [] (top 7), fnSays [] (top 9), fnSays [] (top 10), fnSays [] (top 11), fnSays [] (top 12), fnSays [] (top 13), fnSays [] (top 14), fnSays [] (top 15), fnSays [] (top 16), fnSays [] (top 21), fnSays [] (top 22), fnSays [] (top 23), fnSays [] (top 27), fnSays [] (top 28), fnSays [] (top 29), fnSays [] (top 30), fnSays [] (top 31), fnSays [] (top 32), fnSays [] (top 33), fnSays [] (top 34), fnSays [] (top 35), fnSays [] (top 36), fnSays [] (top 37), fnSays [] (top 38), fnSays [] (top 39), fnSays [] (meth 18 0), fnSays [] (meth 18 1), fnSays [] (meth 18 2), fnSays [] (meth 18 3), fnSays [] (meth 18 4), fnSays [] (meth 18 5), fnSays [] (meth 18 6), fnSays [] (meth 18 7), fnSays [] (meth 18 8), fnSays [] (meth 18 9), fnSays [] (meth 18 10), fnSays [] (meth 18 11), fnSays [] (meth 18 12), fnSays [] (meth 18 13), fnSays [] (meth 18 14), fnSays [] (meth 18 15), fnSays [] (meth 18 16), fnSays [] (meth 18 17), fnSays [] (meth 19 0), fnSays [("__class__", 323)] (meth 24 0), fnSays [] (meth 24 1), fnSays [] (meth 24 2), fnSays [] (meth 24 3), fnSays [] (meth 24 4), fnSays [] (meth 24 5), fnSays [] (meth 24 6), fnSays [] (meth 24 7), fnSays [] (meth 24 8)]
noncomputable def globNames : List Str := (["least", "greatest", "size", "next_from", "has", "values", "up_to", "from_on", "without", "meet", "negation", "struck", "said_of", "lacking", "once_each", "room", "_law_lot", "_law_ranges", "_law_spread", "_law_meets", "_law_is_answer", "_law_points", "_law_keep", "_law_now", "_law_hold", "_law_strikes_right", "_law_asked_right", "_law_checked_right", "law", "size_domains", "has_domains", "Store", "Element", "_law_cells"] : List String).map Str.ofString
noncomputable def globVals : List (Option Value) := ([28, 35, 40, 47, 54, 61, 66, 71, 78, 85, 92, 99, 106, 309, 314, 319, 402, 409, 414, 421, 428, 433, 438, 443, 448, 453, 458, 465, 470, 40, 54, 256, 392, 395] : List Nat).map fun a => some (.ref a)
noncomputable def bltNames : List Str := ["sum", "max", "min", "range", "tuple", "len", "sorted", "list", "set", "any", "super"]
noncomputable def bltVals : List (Option Value) := [some (.builtin "sum"), some (.builtin "max"), some (.builtin "min"), some (.type "range"), some (.type "tuple"), some (.builtin "len"), some (.builtin "sorted"), some (.type "list"), some (.type "set"), some (.builtin "any"), some (.type "super")]
noncomputable def kAddrs : List Addr := [2, 120, 127, 134, 141, 148, 155, 162, 169, 176, 183, 190, 197, 204, 211, 218, 225, 232, 239, 255, 256, 274, 297, 298, 323, 335, 342, 349, 356, 363, 370, 375, 382, 389, 391, 392]
noncomputable def clsOk (K : Frag) (C : Addr) : Bool :=
  decide (findIn K (.ref C) "__getattribute__" = some (some (.builtin "object.__getattribute__"))) && decide (findIn K (.ref C) "__getattr__" = some none) && decide (findIn K (.ref C) "__setattr__" = some (some (.builtin "object.__setattr__"))) &&
    hasDictIn K C && plainOver K C && makesIn K C && keepIn K (.ref C)
noncomputable def lacks (K : Frag) (C : Addr) (names : List Str) : Bool := names.all fun x => decide (findIn K (.ref C) x = some none)
noncomputable def bears (K : Frag) (C : Addr) (ms : List (Str × Addr)) : Bool := ms.all fun x => decide (findIn K (.ref C) x.1 = some (some (.ref x.2))) && decide (typeIn K (.ref x.2) = some (.type "function"))
noncomputable def storeAttrs : List Str := ["domains", "firsts", "trail", "marks", "news", "speaker", "is_failed", "clash"]
noncomputable def storeMeths : List (Str × Addr) := [("__init__", 120), ("new_var", 127), ("size", 134), ("dom", 141), ("initial", 148), ("low", 155), ("high", 162), ("has", 169), ("is_fixed", 176), ("value", 183), ("width", 190), ("holds", 197), ("enter", 204), ("strike", 211), ("decide", 218), ("fail", 225), ("push", 232), ("pop", 239)]
noncomputable def elemAttrs : List Str := ["number", "scope", "strength", "index", "cells", "z"]
noncomputable def elemMeths : List (Str × Addr) := [("__init__", 335), ("told", 342), ("check", 349), ("propagate", 356), ("strike_places", 363), ("why_unlike", 370), ("strike_values", 375), ("why_nowhere", 382), ("strike_cell", 389)]
noncomputable def cellIn (K : Frag) (a : Addr) : Option Value := match K.lookup a with
  | some ⟨_, _, .cell (some v), _⟩ => some v
  | _ => none
noncomputable def superOk (K : Frag) : Bool := decide (cellIn K 323 = some (.ref 392)) && (clsIn K 392).isSome && decide (mroIn K 392 (.ref 392) = some true) && decide (ks_superIn K 392 392 "__init__" = some (some (.ref 274))) &&
  decide (typeIn K (.ref 274) = some (.type "function")) && decide (nsIn K cStatics "thirdparty.any" = some none)
noncomputable def fileOk (h : Heap) (a : Addr) : Bool := match h.get? a with
  | some ⟨_, _, .func fd, _⟩ => match fd.code with
    | .ref c => match h.get? c with
      | some ⟨_, _, .fields vs, _⟩ => isText PySem.Challenge.pw_no0312_01.main.file (vs.toList[2]?)
      | _ => false
    | _ => false
  | _ => false
noncomputable def kOk (K : Frag) : Bool := clsOk K 256 && clsOk K 392 && lacks K 256 storeAttrs && bears K 256 storeMeths && lacks K 392 elemAttrs && bears K 392 elemMeths && superOk K
noncomputable def cellsObj : Obj := { cls := .type "tuple", data := .seq #[.int 0 690, .int 14 691, .int 5 692, .int 5 693, .int 15 694, .int 0 695] }
noncomputable abbrev Told := List FnV × List (Option Value) × List (Option Value) × List (Option Value) × Option Obj × Bool
noncomputable def told (h : Heap) : Told := (fnAddrs.map (fnView h), globNames.map (h.nsMap mainGlobals), bltNames.map (h.nsMap builtinsNs), bltNames.map (h.nsMap mainGlobals), h.get? 395,
  fileOk h 335 && kOk (fragOf h kAddrs) && h.isNs mainGlobals && h.isNs builtinsNs && h.isNs cStatics && decide (h.nsMap cStatics "sys.recursionlimit" = none))
noncomputable def toldVal : Told := (fnVals, globVals, bltVals, bltNames.map fun _ => none, some cellsObj, true)

noncomputable def looseL : List Str := ([ "_wall","least","greatest","size","next_from","has","values","up_to","from_on","without","meet","negation","struck","said_of","Store","Propagator","lacking","once_each","room","Element","_law_cells","_law_lot","_law_ranges","_law_spread","_law_meets","_law_is_answer","_law_points","_law_keep","_law_now","_law_hold","_law_strikes_right","_law_asked_right","_law_checked_right","size_domains","has_domains"] : List String).map Str.ofString
noncomputable def qv : Program := { PySem.Challenge.pw_no0312_01 with main := { PySem.Challenge.pw_no0312_01.main with body := PySem.Challenge.pw_no0312_01.main.body.drop 39 } }
noncomputable def bootS (P : Params) (os : OsState) : SharedT := ⟨treeOfL (boot_heap P).objs.toList 0 .nil, (boot_heap P).objs.size, (boot_heap P).life, Array.mk [], boot_drawn, boot_toks, os⟩
set_option maxRecDepth 100000 in
set_option maxHeartbeats 0 in
theorem run1 (w : World) (os : OsState) : (runG through (stepOk (boot_heap w.params).objs.size ((boot_heap w.params).nsMap mainGlobals "__annotations__")) (stepT (denote treeTable) PySem.Challenge.pw_no0312_01 w) 5400 (bootS w.params os) (topStub PySem.Challenge.pw_no0312_01)).map (fun s =>
   ((staticsOk (importedModules PySem.Challenge.pw_no0312_01.main.body) (boot_heap w.params) s.abs.heap && namesBound PySem.Challenge.pw_no0312_01 s.abs.heap && gensDone s.abs && laidKept (boot_heap w.params) s.abs.heap),
   openSeen qv looseL (importedModules PySem.Challenge.pw_no0312_01.main.body) (fun _ => true) true s.abs, told s.abs.heap)) = some (true, openGood qv looseL, toldVal) := by
  rw [PySem.W.Fast.te5923862056798008813, PySem.W.Fast.te4187177175401517315, PySem.W.Fast.te6613529449190102663, PySem.W.Fast.te8920871248978507458, PySem.W.Fast.te10156331382660048174, PySem.W.Fast.te11892475500146522536, PySem.W.Fast.te14364793385576792824]
  kernel_rfl
end Mine
end
section
open PySem PySem.W PySem.Calls PyProof.Rows
set_option maxRecDepth 100000
set_option linter.unusedVariables false
namespace Mine
noncomputable def Says (h : Heap) : Prop := ∃ h₀, told h₀ = toldVal ∧ ∀ b o, h₀.get? b = some o → h.get? b = some o

theorem codeOk_rec {h : Heap} {cd : Value} {q : Str} (e : codeOk h cd q = true) : h.CodeRec cd q := by
  unfold codeOk at e
  split at e
  · rename_i c
    split at e
    · rename_i oc od vs sl ho
      unfold isText at e
      split at e
      · rename_i x t he
        have : x = q := of_decide_eq_true e
        subst this
        exact ⟨c, _, vs, t, rfl, ho, rfl, by rw [← Array.getElem?_toList]; exact he⟩
      · cases e
    · cases e
  · cases e
noncomputable def Binds (p : Arguments) (names : List Str) : Prop := ∀ fd : FuncData, fd.params = p → fd.defaults = .none → fd.kwdefaults = .none → ∀ vals : List Value, vals.length = names.length → bindArgs fd ⟨vals, []⟩ = pure (names.zip vals)
theorem fnView_says {h : Heap} {a : Addr} {clo : List (Str × Addr)} {x : Arguments × List Stmt × Scope} (e : fnView h a = fnSays clo x) : ∃ o fd, h.get? a = some o ∧ o.data = .func fd ∧ fd.params = x.1 ∧ fd.body = .stmts x.2.1 ∧ fd.scope = x.2.2 ∧ fd.closure = clo ∧ fd.globals = mainGlobals ∧ fd.builtins = builtinsNs ∧ fd.defaults = .none ∧ fd.kwdefaults = .none ∧ h.CodeRec fd.code fd.qualname := by
  unfold fnView at e
  split at e
  · rename_i oc od fd sl ho
    unfold fnSays at e
    simp only [Option.some.injEq, Prod.mk.injEq] at e
    obtain ⟨e1, e2, e3, e4, e5, e6, e7, e8, e9⟩ := e
    exact ⟨_, fd, ho, rfl, e1, e2, e3, e4, e5, e6, e7, e8, codeOk_rec e9⟩
  · cases e
theorem nsLim {h : Heap} (e : h.isNs cStatics = true) (e' : h.nsMap cStatics "sys.recursionlimit" = none) : h.NoLimit := ⟨_, .of_isNs e, e'⟩
theorem fragOf_in (h : Heap) (as : List Addr) : (fragOf h as).In h := by
  intro a o e
  unfold fragOf at e
  have := mem_of_lookupF e
  obtain ⟨b, _, hb⟩ := List.mem_filterMap.mp this
  cases hg : h.get? b with
  | none => rw [hg] at hb; cases hb
  | some o' => rw [hg] at hb; cases hb; exact hg
where
  mem_of_lookupF {α : Type} : ∀ {l : List (Addr × α)} {n : Addr} {c : α}, l.lookup n = some c → (n, c) ∈ l
    | (k, v) :: r, n, c, h => by
      rw [List.lookup_cons] at h
      cases hb : n == k with
      | true => rw [hb] at h; cases h; rw [beq_iff_eq.mp hb]; exact List.mem_cons_self
      | false => rw [hb] at h; exact List.mem_cons_of_mem _ (mem_of_lookupF h)

section
variable {y : Sy}
theorem fnFact (H : Says y.B) {k : Nat} {a : Addr} {x : Arguments × List Stmt × Scope} {names : List Str} (hk : fnAddrs[k]? = some a) (hv : fnVals[k]? = some (fnSays [] x)) (hb : Binds x.1 names) : Fn y a names x.2.2 x.2.1 := by
  obtain ⟨h₀, e, kk⟩ := H
  have e1 : (fnAddrs.map (fnView h₀))[k]? = fnVals[k]? := congrArg (fun l => l[k]?) (congrArg Prod.fst e)
  rw [List.getElem?_map, hk, hv] at e1
  obtain ⟨o, fd, ho, hd, p1, p2, p3, p4, p5, p6, p7, p8, p9⟩ := fnView_says (Option.some.inj e1)
  have el : (_ && _ && _ && _ && _ && _) = true := congrArg (fun x : Told => x.2.2.2.2.2) e
  simp only [Bool.and_eq_true, decide_eq_true_eq] at el
  exact ⟨⟨o, fd, kk _ _ ho, hd, p3, p2, p4, p5, p6, p9.keeps kk, hb fd p1 p7 p8⟩, (nsLim el.1.2 el.2).keeps kk⟩
theorem gl (H : Says y.B) : ∃ mg mb, Gl y mg mb ∧ globNames.map mg = globVals ∧ bltNames.map mb = bltVals ∧ ∀ x ∈ bltNames, mg x = none := by
  obtain ⟨h₀, e, kk⟩ := H
  have el : (_ && _ && _ && _ && _ && _) = true := congrArg (fun x : Told => x.2.2.2.2.2) e
  simp only [Bool.and_eq_true, decide_eq_true_eq] at el
  refine ⟨_, _, ⟨(Heap.Ns.of_isNs el.1.1.1.2).keeps kk, (Heap.Ns.of_isNs el.1.1.2).keeps kk, (nsLim el.1.2 el.2).keeps kk⟩, congrArg (fun x : Told => x.2.1) e, congrArg (fun x : Told => x.2.2.1) e, fun x hx => ?_⟩
  have e4 : bltNames.map (h₀.nsMap mainGlobals) = bltNames.map fun _ => none := congrArg (fun x : Told => x.2.2.2.1) e
  exact List.map_inj_left.mp e4 x hx
theorem globFact (H : Says y.B) {k : Nat} {x : Str} {v : Value} (hk : globNames[k]? = some x) (hv : globVals[k]? = some (some v)) : GlobIs y x (.val v) := by
  obtain ⟨mg, mb, G, e1, e2, e3⟩ := gl H
  have : (globNames.map mg)[k]? = globVals[k]? := congrArg (fun l => l[k]?) e1
  rw [List.getElem?_map, hk, hv] at this
  exact ⟨mg, mb, v, G, .inl (Option.some.inj this), .val v⟩
theorem bltFact (H : Says y.B) {k : Nat} {x : Str} {v : Value} (hk : bltNames[k]? = some x) (hv : bltVals[k]? = some (some v)) : GlobIs y x (.val v) := by
  obtain ⟨mg, mb, G, e1, e2, e3⟩ := gl H
  have : (bltNames.map mb)[k]? = bltVals[k]? := congrArg (fun l => l[k]?) e2
  rw [List.getElem?_map, hk, hv] at this
  exact ⟨mg, mb, v, G, .inr ⟨e3 x (List.mem_of_getElem? hk), Option.some.inj this⟩, .val v⟩
theorem cellsFact (H : Says y.B) : GlobIs y "_law_cells" (.tup [.int 0, .int 14, .int 5, .int 5, .int 15, .int 0]) := by
  have G := globFact H (k := 33) (x := "_law_cells") (v := .ref 395) (by rfl) (by rfl)
  obtain ⟨mg, mb, v, G, e, r⟩ := G
  cases r
  obtain ⟨h₀, e', kk⟩ := H
  have e5 : h₀.get? 395 = some cellsObj := congrArg (fun x : Told => x.2.2.2.2.1) e'
  exact ⟨mg, mb, _, G, e, .tup ⟨0, kk _ _ e5⟩ (.cons (.int ..) (.cons (.int ..) (.cons (.int ..) (.cons (.int ..) (.cons (.int ..) (.cons (.int ..) .nil))))))⟩
theorem kFact (H : Says y.B) : ∃ K : Frag, K.In y.B ∧ kOk K = true := by
  obtain ⟨h₀, e, kk⟩ := H
  have el : (_ && _ && _ && _ && _ && _) = true := congrArg (fun x : Told => x.2.2.2.2.2) e
  simp only [Bool.and_eq_true, decide_eq_true_eq] at el
  exact ⟨_, (fragOf_in h₀ kAddrs).keeps kk, el.1.1.1.1.2⟩
end
end Mine
end
section
open PySem PySem.W PySem.Calls PyProof.Rows
set_option maxRecDepth 100000
set_option linter.unusedVariables false
namespace Mine
theorem len_inv {α : Type} {l : List α} {k : Nat} (h : l.length = k + 1) : ∃ a r, l = a :: r ∧ r.length = k := by
  cases l with
  | nil => simp at h
  | cons a r => exact ⟨a, r, rfl, by simpa using h⟩
noncomputable def fdW (fd : FuncData) (p : Arguments) : FuncData := { fd with params := p, defaults := .none, kwdefaults := .none }
theorem fd_eta : ∀ (fd : FuncData) {p : Arguments} (_ : fd.params = p) (_ : fd.defaults = .none) (_ : fd.kwdefaults = .none) (vals : List Value), bindArgs fd ⟨vals, []⟩ = bindArgs (fdW fd p) ⟨vals, []⟩ := by
  rintro ⟨⟩ p e1 e2 e3 vals; subst e1 e2 e3; rfl
theorem binds1 {p : Arguments} {a1 : Str} (h : ∀ (fd : FuncData) (v1 : Value), bindArgs (fdW fd p) ⟨[v1], []⟩ = pure ([a1].zip [v1])) : Binds p [a1] := fun fd e1 e2 e3 vals hl => by
  obtain ⟨v0, r0, q0, h0⟩ := len_inv (k := 0) hl
  have := List.length_eq_zero_iff.mp h0
  rw [q0, this, fd_eta fd e1 e2 e3]; exact h fd v0
theorem binds2 {p : Arguments} {a1 a2 : Str} (h : ∀ (fd : FuncData) (v1 v2 : Value), bindArgs (fdW fd p) ⟨[v1, v2], []⟩ = pure ([a1, a2].zip [v1, v2])) : Binds p [a1, a2] := fun fd e1 e2 e3 vals hl => by
  obtain ⟨v0, r0, q0, h0⟩ := len_inv (k := 1) hl
  obtain ⟨v1, r1, q1, h1⟩ := len_inv (k := 0) h0
  have := List.length_eq_zero_iff.mp h1
  rw [q0, q1, this, fd_eta fd e1 e2 e3]; exact h fd v0 v1
theorem binds3 {p : Arguments} {a1 a2 a3 : Str} (h : ∀ (fd : FuncData) (v1 v2 v3 : Value), bindArgs (fdW fd p) ⟨[v1, v2, v3], []⟩ = pure ([a1, a2, a3].zip [v1, v2, v3])) : Binds p [a1, a2, a3] := fun fd e1 e2 e3 vals hl => by
  obtain ⟨v0, r0, q0, h0⟩ := len_inv (k := 2) hl
  obtain ⟨v1, r1, q1, h1⟩ := len_inv (k := 1) h0
  obtain ⟨v2, r2, q2, h2⟩ := len_inv (k := 0) h1
  have := List.length_eq_zero_iff.mp h2
  rw [q0, q1, q2, this, fd_eta fd e1 e2 e3]; exact h fd v0 v1 v2
theorem binds4 {p : Arguments} {a1 a2 a3 a4 : Str} (h : ∀ (fd : FuncData) (v1 v2 v3 v4 : Value), bindArgs (fdW fd p) ⟨[v1, v2, v3, v4], []⟩ = pure ([a1, a2, a3, a4].zip [v1, v2, v3, v4])) : Binds p [a1, a2, a3, a4] := fun fd e1 e2 e3 vals hl => by
  obtain ⟨v0, r0, q0, h0⟩ := len_inv (k := 3) hl
  obtain ⟨v1, r1, q1, h1⟩ := len_inv (k := 2) h0
  obtain ⟨v2, r2, q2, h2⟩ := len_inv (k := 1) h1
  obtain ⟨v3, r3, q3, h3⟩ := len_inv (k := 0) h2
  have := List.length_eq_zero_iff.mp h3
  rw [q0, q1, q2, q3, this, fd_eta fd e1 e2 e3]; exact h fd v0 v1 v2 v3
section
variable {y : Sy}
theorem F_least (H : Says y.B) : Fn y 28 ["d"] (top 2).2.2 (top 2).2.1 := fnFact H (k := 0) (by rfl) (by rfl) (binds1 fun _ _ => by kernel_rfl)
theorem F_greatest (H : Says y.B) : Fn y 35 ["d"] (top 3).2.2 (top 3).2.1 := fnFact H (k := 1) (by rfl) (by rfl) (binds1 fun _ _ => by kernel_rfl)
theorem F_size (H : Says y.B) : Fn y 40 ["d"] (top 4).2.2 (top 4).2.1 := fnFact H (k := 2) (by rfl) (by rfl) (binds1 fun _ _ => by kernel_rfl)
theorem F_next_from (H : Says y.B) : Fn y 47 ["d", "v"] (top 6).2.2 (top 6).2.1 := fnFact H (k := 3) (by rfl) (by rfl) (binds2 fun _ _ _ => by kernel_rfl)
theorem F_has (H : Says y.B) : Fn y 54 ["d", "v"] (top 7).2.2 (top 7).2.1 := fnFact H (k := 4) (by rfl) (by rfl) (binds2 fun _ _ _ => by kernel_rfl)
theorem F_values (H : Says y.B) : Fn y 61 ["d"] (top 9).2.2 (top 9).2.1 := fnFact H (k := 5) (by rfl) (by rfl) (binds1 fun _ _ => by kernel_rfl)
theorem F_up_to (H : Says y.B) : Fn y 66 ["d", "k"] (top 10).2.2 (top 10).2.1 := fnFact H (k := 6) (by rfl) (by rfl) (binds2 fun _ _ _ => by kernel_rfl)
theorem F_from_on (H : Says y.B) : Fn y 71 ["d", "k"] (top 11).2.2 (top 11).2.1 := fnFact H (k := 7) (by rfl) (by rfl) (binds2 fun _ _ _ => by kernel_rfl)
theorem F_without (H : Says y.B) : Fn y 78 ["d", "v"] (top 12).2.2 (top 12).2.1 := fnFact H (k := 8) (by rfl) (by rfl) (binds2 fun _ _ _ => by kernel_rfl)
theorem F_meet (H : Says y.B) : Fn y 85 ["d", "e"] (top 13).2.2 (top 13).2.1 := fnFact H (k := 9) (by rfl) (by rfl) (binds2 fun _ _ _ => by kernel_rfl)
theorem F_negation (H : Says y.B) : Fn y 92 ["literal"] (top 14).2.2 (top 14).2.1 := fnFact H (k := 10) (by rfl) (by rfl) (binds1 fun _ _ => by kernel_rfl)
theorem F_struck (H : Says y.B) : Fn y 99 ["literal", "d"] (top 15).2.2 (top 15).2.1 := fnFact H (k := 11) (by rfl) (by rfl) (binds2 fun _ _ _ => by kernel_rfl)
theorem F_said_of (H : Says y.B) : Fn y 106 ["literal", "d"] (top 16).2.2 (top 16).2.1 := fnFact H (k := 12) (by rfl) (by rfl) (binds2 fun _ _ _ => by kernel_rfl)
theorem F_lacking (H : Says y.B) : Fn y 309 ["store", "x", "v"] (top 21).2.2 (top 21).2.1 := fnFact H (k := 13) (by rfl) (by rfl) (binds3 fun _ _ _ _ => by kernel_rfl)
theorem F_once_each (H : Says y.B) : Fn y 314 ["literals"] (top 22).2.2 (top 22).2.1 := fnFact H (k := 14) (by rfl) (by rfl) (binds1 fun _ _ => by kernel_rfl)
theorem F_room (H : Says y.B) : Fn y 319 ["store", "scope"] (top 23).2.2 (top 23).2.1 := fnFact H (k := 15) (by rfl) (by rfl) (binds2 fun _ _ _ => by kernel_rfl)
theorem F_law_lot (H : Says y.B) : Fn y 402 ["cell", "base", "many"] (top 27).2.2 (top 27).2.1 := fnFact H (k := 16) (by rfl) (by rfl) (binds3 fun _ _ _ _ => by kernel_rfl)
theorem F_law_ranges (H : Says y.B) : Fn y 409 ["lot"] (top 28).2.2 (top 28).2.1 := fnFact H (k := 17) (by rfl) (by rfl) (binds1 fun _ _ => by kernel_rfl)
theorem F_law_spread (H : Says y.B) : Fn y 414 ["domain"] (top 29).2.2 (top 29).2.1 := fnFact H (k := 18) (by rfl) (by rfl) (binds1 fun _ _ => by kernel_rfl)
theorem F_law_meets (H : Says y.B) : Fn y 421 ["v", "literal"] (top 30).2.2 (top 30).2.1 := fnFact H (k := 19) (by rfl) (by rfl) (binds2 fun _ _ _ => by kernel_rfl)
theorem F_law_is_answer (H : Says y.B) : Fn y 428 ["point"] (top 31).2.2 (top 31).2.1 := fnFact H (k := 20) (by rfl) (by rfl) (binds1 fun _ _ => by kernel_rfl)
theorem F_law_points (H : Says y.B) : Fn y 433 ["lots"] (top 32).2.2 (top 32).2.1 := fnFact H (k := 21) (by rfl) (by rfl) (binds1 fun _ _ => by kernel_rfl)
theorem F_law_keep (H : Says y.B) : Fn y 438 ["points", "literals"] (top 33).2.2 (top 33).2.1 := fnFact H (k := 22) (by rfl) (by rfl) (binds2 fun _ _ _ => by kernel_rfl)
theorem F_law_now (H : Says y.B) : Fn y 443 ["store"] (top 34).2.2 (top 34).2.1 := fnFact H (k := 23) (by rfl) (by rfl) (binds1 fun _ _ => by kernel_rfl)
theorem F_law_hold (H : Says y.B) : Fn y 448 ["lots", "literals"] (top 35).2.2 (top 35).2.1 := fnFact H (k := 24) (by rfl) (by rfl) (binds2 fun _ _ _ => by kernel_rfl)
theorem F_law_strikes_right (H : Says y.B) : Fn y 453 ["store", "lots", "spot", "answers"] (top 36).2.2 (top 36).2.1 := fnFact H (k := 25) (by rfl) (by rfl) (binds4 fun _ _ _ _ _ => by kernel_rfl)
theorem F_law_asked_right (H : Says y.B) : Fn y 458 ["store", "rule", "answers"] (top 37).2.2 (top 37).2.1 := fnFact H (k := 26) (by rfl) (by rfl) (binds3 fun _ _ _ _ => by kernel_rfl)
theorem F_law_checked_right (H : Says y.B) : Fn y 465 ["rule", "lots"] (top 38).2.2 (top 38).2.1 := fnFact H (k := 27) (by rfl) (by rfl) (binds2 fun _ _ _ => by kernel_rfl)
theorem F_law0 (H : Says y.B) : Fn y 470 ["script"] (top 39).2.2 (top 39).2.1 := fnFact H (k := 28) (by rfl) (by rfl) (binds1 fun _ _ => by kernel_rfl)
theorem F_s_init (H : Says y.B) : Fn y 120 ["self"] (meth 18 0).2.2 (meth 18 0).2.1 := fnFact H (k := 29) (by rfl) (by rfl) (binds1 fun _ _ => by kernel_rfl)
theorem F_s_new_var (H : Says y.B) : Fn y 127 ["self", "domain"] (meth 18 1).2.2 (meth 18 1).2.1 := fnFact H (k := 30) (by rfl) (by rfl) (binds2 fun _ _ _ => by kernel_rfl)
theorem F_s_size (H : Says y.B) : Fn y 134 ["self"] (meth 18 2).2.2 (meth 18 2).2.1 := fnFact H (k := 31) (by rfl) (by rfl) (binds1 fun _ _ => by kernel_rfl)
theorem F_s_dom (H : Says y.B) : Fn y 141 ["self", "x"] (meth 18 3).2.2 (meth 18 3).2.1 := fnFact H (k := 32) (by rfl) (by rfl) (binds2 fun _ _ _ => by kernel_rfl)
theorem F_s_initial (H : Says y.B) : Fn y 148 ["self", "x"] (meth 18 4).2.2 (meth 18 4).2.1 := fnFact H (k := 33) (by rfl) (by rfl) (binds2 fun _ _ _ => by kernel_rfl)
theorem F_s_low (H : Says y.B) : Fn y 155 ["self", "x"] (meth 18 5).2.2 (meth 18 5).2.1 := fnFact H (k := 34) (by rfl) (by rfl) (binds2 fun _ _ _ => by kernel_rfl)
theorem F_s_high (H : Says y.B) : Fn y 162 ["self", "x"] (meth 18 6).2.2 (meth 18 6).2.1 := fnFact H (k := 35) (by rfl) (by rfl) (binds2 fun _ _ _ => by kernel_rfl)
theorem F_s_has (H : Says y.B) : Fn y 169 ["self", "x", "v"] (meth 18 7).2.2 (meth 18 7).2.1 := fnFact H (k := 36) (by rfl) (by rfl) (binds3 fun _ _ _ _ => by kernel_rfl)
theorem F_s_is_fixed (H : Says y.B) : Fn y 176 ["self", "x"] (meth 18 8).2.2 (meth 18 8).2.1 := fnFact H (k := 37) (by rfl) (by rfl) (binds2 fun _ _ _ => by kernel_rfl)
theorem F_s_value (H : Says y.B) : Fn y 183 ["self", "x"] (meth 18 9).2.2 (meth 18 9).2.1 := fnFact H (k := 38) (by rfl) (by rfl) (binds2 fun _ _ _ => by kernel_rfl)
theorem F_s_width (H : Says y.B) : Fn y 190 ["self", "x"] (meth 18 10).2.2 (meth 18 10).2.1 := fnFact H (k := 39) (by rfl) (by rfl) (binds2 fun _ _ _ => by kernel_rfl)
theorem F_s_holds (H : Says y.B) : Fn y 197 ["self", "literal"] (meth 18 11).2.2 (meth 18 11).2.1 := fnFact H (k := 40) (by rfl) (by rfl) (binds2 fun _ _ _ => by kernel_rfl)
theorem F_s_enter (H : Says y.B) : Fn y 204 ["self", "literal", "reasons", "speaker"] (meth 18 12).2.2 (meth 18 12).2.1 := fnFact H (k := 41) (by rfl) (by rfl) (binds4 fun _ _ _ _ _ => by kernel_rfl)
theorem F_s_strike (H : Says y.B) : Fn y 211 ["self", "literal", "reasons"] (meth 18 13).2.2 (meth 18 13).2.1 := fnFact H (k := 42) (by rfl) (by rfl) (binds3 fun _ _ _ _ => by kernel_rfl)
theorem F_s_decide (H : Says y.B) : Fn y 218 ["self", "literal"] (meth 18 14).2.2 (meth 18 14).2.1 := fnFact H (k := 43) (by rfl) (by rfl) (binds2 fun _ _ _ => by kernel_rfl)
theorem F_s_fail (H : Says y.B) : Fn y 225 ["self", "reasons"] (meth 18 15).2.2 (meth 18 15).2.1 := fnFact H (k := 44) (by rfl) (by rfl) (binds2 fun _ _ _ => by kernel_rfl)
theorem F_s_push (H : Says y.B) : Fn y 232 ["self"] (meth 18 16).2.2 (meth 18 16).2.1 := fnFact H (k := 45) (by rfl) (by rfl) (binds1 fun _ _ => by kernel_rfl)
theorem F_s_pop (H : Says y.B) : Fn y 239 ["self", "n"] (meth 18 17).2.2 (meth 18 17).2.1 := fnFact H (k := 46) (by rfl) (by rfl) (binds2 fun _ _ _ => by kernel_rfl)
theorem F_p_init (H : Says y.B) : Fn y 274 ["self", "scope", "strength"] (meth 19 0).2.2 (meth 19 0).2.1 := fnFact H (k := 47) (by rfl) (by rfl) (binds3 fun _ _ _ _ => by kernel_rfl)
theorem F_e_told (H : Says y.B) : Fn y 342 ["self"] (meth 24 1).2.2 (meth 24 1).2.1 := fnFact H (k := 49) (by rfl) (by rfl) (binds1 fun _ _ => by kernel_rfl)
theorem F_e_check (H : Says y.B) : Fn y 349 ["self", "some"] (meth 24 2).2.2 (meth 24 2).2.1 := fnFact H (k := 50) (by rfl) (by rfl) (binds2 fun _ _ _ => by kernel_rfl)
theorem F_e_propagate (H : Says y.B) : Fn y 356 ["self", "store"] (meth 24 3).2.2 (meth 24 3).2.1 := fnFact H (k := 51) (by rfl) (by rfl) (binds2 fun _ _ _ => by kernel_rfl)
theorem F_e_strike_places (H : Says y.B) : Fn y 363 ["self", "store"] (meth 24 4).2.2 (meth 24 4).2.1 := fnFact H (k := 52) (by rfl) (by rfl) (binds2 fun _ _ _ => by kernel_rfl)
theorem F_e_why_unlike (H : Says y.B) : Fn y 370 ["self", "store", "x"] (meth 24 5).2.2 (meth 24 5).2.1 := fnFact H (k := 53) (by rfl) (by rfl) (binds3 fun _ _ _ _ => by kernel_rfl)
theorem F_e_strike_values (H : Says y.B) : Fn y 375 ["self", "store"] (meth 24 6).2.2 (meth 24 6).2.1 := fnFact H (k := 54) (by rfl) (by rfl) (binds2 fun _ _ _ => by kernel_rfl)
theorem F_e_why_nowhere (H : Says y.B) : Fn y 382 ["self", "store", "v"] (meth 24 7).2.2 (meth 24 7).2.1 := fnFact H (k := 55) (by rfl) (by rfl) (binds3 fun _ _ _ _ => by kernel_rfl)
theorem F_e_strike_cell (H : Says y.B) : Fn y 389 ["self", "store"] (meth 24 8).2.2 (meth 24 8).2.1 := fnFact H (k := 56) (by rfl) (by rfl) (binds2 fun _ _ _ => by kernel_rfl)
end
end Mine
end
section
open PySem PySem.W PySem.Calls PyProof.Rows
set_option maxRecDepth 100000
set_option linter.unusedVariables false
namespace Mine

theorem kd {env : Env} {S : Scope} (he : env.scope = S) {x : Str} {k : NameKind} (h : S.names.lookup x = some k := by rfl) : env.kindOf x = some k := by
  show env.scope.names.lookup x = some k
  rw [he]; exact h
noncomputable def relabelS (sc S : Scope) : Scope := { sc with names := sc.names.map fun (n, k) => if (k == .free && S.kind == .function && S.names.lookup n == some .cell) then (n, .cell) else (n, k) }
theorem relabel_S {sc S : Scope} {env cenv : Env} (he : env.scope = S) (hc : cenv.scope = relabel sc env) : cenv.scope = relabelS sc S := by
  rw [hc, ← he]; rfl
theorem sck {env : Env} {S sc : Scope} (he : env.scope = S) (h : scOKb sc (fun x => S.names.lookup x) = true := by rfl) : scOKb sc env.kindOf = true := by
  have : env.kindOf = fun x => S.names.lookup x := by funext x; show env.scope.names.lookup x = _; rw [he]
  rw [this]; exact h

section
variable {y : Sy} {n : Nat} {env : Env} {W : Str → Prop} {ρ : Env1} {σ : St} {Q : V → St → Prop}
theorem E_var {x : Str} {pos : Pos} {u : V} {S : Scope} (he : env.scope = S) (hx : ρ x = some u) (h : Q u σ)
    (hk : (S.names.lookup x == some .local || S.names.lookup x == some .cell || S.names.lookup x == some .free) = true := by rfl) (hd : (x == ("__debug__" : Str)) = false := by rfl) (hc' : (x == ("__classdict__" : Str)) = false := by rfl) : EV y n env ρ σ (.Name x pos) Q := by
  simp only [Bool.or_eq_true, beq_iff_eq] at hk
  rcases hk with (hk | hk) | hk
  · exact E_local (kd he hk) hx h hd
  · exact E_cell (kd he hk) hx h hd
  · exact E_free (kd he hk) hx h hd hc'
theorem E_gl {x : Str} {pos : Pos} {u : V} {S : Scope} (he : env.scope = S) (hx : GlobIs y x u) (h : Q u σ) (hk : S.names.lookup x = some .globalImplicit := by rfl) (hd : (x == ("__debug__" : Str)) = false := by rfl) : EV y n env ρ σ (.Name x pos) Q :=
  E_glob (kd he hk) hx h hd
theorem T_var {x : Str} {pos : Pos} {u : V} {S : Scope} {R : Env1 → St → Prop} (he : env.scope = S) (h : let ρ' := upd ρ x u; R ρ' σ) (hw : S.names.lookup x = some .cell → W x := by intro _; trivial)
    (hk : (S.names.lookup x == some .local || S.names.lookup x == some .cell) = true := by rfl) : AT y n env W (.Name x pos) u ρ σ R := by
  simp only [Bool.or_eq_true, beq_iff_eq] at hk
  rcases hk with hk | hk
  · exact T_local (kd he hk) h
  · exact T_cell (kd he hk) (hw hk) h
noncomputable def kCall (y : Sy) (n : Nat) (f : Value) (Q : V → St → Prop) (xs : List V) (σ₂ : St) : Prop := CallV y n σ₂ f xs Q
noncomputable def kCallM (y : Sy) (n : Nat) (f₀ a : Addr) (Q : V → St → Prop) (xs : List V) (σ₂ : St) : Prop := CallV y n σ₂ (.ref f₀) (.val (.ref a) :: xs) Q
theorem E_fcall {f : Str} {p pos : Pos} {args : List Expr} {S : Scope} {fv : Value} (he : env.scope = S) (hx : GlobIs y f (.val fv)) (hkp : Keeps y fv) (h : EVs y n env ρ args (kCall y n fv Q) σ) (hs : args.all plainE = true := by rfl)
    (hk : S.names.lookup f = some .globalImplicit := by rfl) (hd : (f == ("__debug__" : Str)) = false := by rfl) : EV y n env ρ σ (.Call (.Name f p) args [] pos) Q :=
  E_call (E_gl he hx ⟨fv, rfl, hkp, h⟩ hk hd) hs

theorem CL_pure {σ₀ : St} {t elt : Expr} {ifs : List Expr} {src : V} {all : List V} {post : List V → Env1 → St → Prop} {p : V → Bool} {F : V → V → St → Prop} (J : Env1 → Prop) (G : V → Env1 → Prop)
    (hio : ∀ σ', σ₀.Le σ' → IterOf y σ' src all) (hF : ∀ x v σ' σ'', F x v σ' → σ'.Le σ'' → F x v σ'') : ∀ (xs : List V),
    (∀ x ∈ xs, ∀ ρ σ' R, J ρ → σ₀.Le σ' → (∀ ρ', J ρ' → G x ρ' → R ρ' σ') → AT y n env W t x ρ σ' R) →
    (∀ x ∈ xs, ∀ ρ σ' B, J ρ → G x ρ → σ₀.Le σ' → (∀ σ'', σ'.Le σ'' → B (p x) σ'') → TS y n env ifs ρ σ' B) →
    (∀ x ∈ xs, ∀ ρ σ' Q, J ρ → G x ρ → p x = true → σ₀.Le σ' → (∀ v σ'', σ'.Le σ'' → F x v σ'' → Q v σ'') → EV y n env ρ σ' elt Q) →
    ∀ (acc : List V) (ρ : Env1) (σ' : St), J ρ → σ₀.Le σ' → acc.length + xs.length ≤ 1000000 →
    (∀ (vs : List V) ρ' σ'', J ρ' → σ'.Le σ'' → vs.length = (xs.filter p).length → (∀ (i : Nat) (x : V), (xs.filter p)[i]? = some x → ∃ v, vs[i]? = some v ∧ F x v σ'') → post (acc ++ vs) ρ' σ'') →
    CL y n env W t ifs src all (P1 y n env elt) post xs acc ρ σ'
  | [], _, _, _, acc, ρ, σ', hJ, hl, hz, hp => ⟨hio σ' hl, by have := hp [] ρ σ' hJ (.refl _) rfl (by simp); rwa [List.append_nil] at this⟩
  | x :: xs, hT, hI, hE, acc, ρ, σ', hJ, hl, hz, hp => by
    have hz' : acc.length + (xs.length + 1) ≤ 1000000 := hz
    refine ⟨hio σ' hl, hT x (.head _) ρ σ' _ hJ hl fun ρ₁ hJ₁ hG₁ => hI x (.head _) ρ₁ σ' _ hJ₁ hG₁ hl fun σ₁ l₁ => ?_⟩
    have ih := CL_pure (post := post) J G hio hF xs (fun z hz => hT z (.tail _ hz)) (fun z hz => hI z (.tail _ hz)) (fun z hz => hE z (.tail _ hz))
    cases hpx : p x with
    | false =>
      refine ih acc ρ₁ σ₁ hJ₁ (hl.trans l₁) (by exact ar0 hz') fun vs ρ' σ'' hJ' l' hlen hvs => hp vs ρ' σ'' hJ' (l₁.trans l') ?_ ?_
      · rw [List.filter_cons, hpx]; exact hlen
      · rw [List.filter_cons, hpx]; exact hvs
    | true =>
      refine ⟨by exact ar1 hz, hE x (.head _) ρ₁ σ₁ _ hJ₁ hG₁ hpx (hl.trans l₁) fun v σ₂ l₂ hv => ?_⟩
      refine ih (acc ++ [v]) ρ₁ σ₂ hJ₁ ((hl.trans l₁).trans l₂) (by simp; exact ar2 hz') fun vs ρ' σ'' hJ' l' hlen hvs => ?_
      rw [List.append_assoc]
      refine hp (v :: vs) ρ' σ'' hJ' ((l₁.trans l₂).trans l') ?_ ?_
      · rw [List.filter_cons, hpx]; simp [hlen]
      · rw [List.filter_cons, hpx]
        intro i z hz
        cases i with
        | zero => simp at hz; subst hz; exact ⟨v, rfl, hF _ _ _ _ hv l'⟩
        | succ i => simp at hz; simpa using hvs i z hz
theorem vals_eq {xs vs : List V} {f : V → V} {σ : St} (hl : vs.length = xs.length) (h : ∀ (i : Nat) (x : V), xs[i]? = some x → ∃ v, vs[i]? = some v ∧ v = f x) : vs = xs.map f := by
  apply List.ext_getElem?
  intro i
  rw [List.getElem?_map]
  by_cases hi : i < xs.length
  · obtain ⟨v, e, e'⟩ := h i xs[i] (List.getElem?_eq_getElem hi)
    rw [e, e', List.getElem?_eq_getElem hi]; rfl
  · rw [List.getElem?_eq_none (by exact ar3 hl hi), List.getElem?_eq_none (by exact ar4 hi)]; rfl
theorem E_le {e : Expr} (h : EV y n env ρ σ e Q) : EV y n env ρ σ e Q := h
end

section
variable {y : Sy} {n : Nat} {env : Env} {W : Str → Prop} {ρ : Env1} {σ : St}
theorem AT.mono {t : Expr} {x : V} {R R' : Env1 → St → Prop} (h : AT y n env W t x ρ σ R) (q : ∀ ρ' σ', R ρ' σ' → R' ρ' σ') : AT y n env W t x ρ σ R' :=
  fun A hA s v I F r => (h A hA s v I F r).mono fun _ _ _ _ _ ⟨ρ', a, z⟩ => ⟨ρ', a, q _ _ z⟩
theorem FL_ind {t : Expr} {body : List Stmt} {src : V} {all : List V} {Q : Fl → Env1 → St → Prop} (I : List V → Env1 → St → Prop) (h0 : ∀ ρ σ, I [] ρ σ → IterOf y σ src all ∧ Q .next ρ σ)
    (h1 : ∀ x xs ρ σ, I (x :: xs) ρ σ → IterOf y σ src all ∧ AT y n env W t x ρ σ fun ρ₁ σ₁ => XS y n env W body ρ₁ σ₁ (kW (I xs) Q)) : ∀ xs ρ σ, I xs ρ σ → FL y n env W t body src all Q xs ρ σ
  | [], ρ, σ, h => h0 ρ σ h
  | x :: xs, ρ, σ, h => by
    obtain ⟨a, b⟩ := h1 x xs ρ σ h
    refine ⟨a, b.mono fun ρ' σ' z => z.mono fun g ρ₂ σ₂ w => ?_⟩
    cases g with
    | next => exact FL_ind I h0 h1 xs _ _ w
    | cont => exact FL_ind I h0 h1 xs _ _ w
    | brk => exact w
    | ret v => exact w
end

noncomputable abbrev pv (p : Int × Int) : V := .tup [.int p.1, .int p.2]
noncomputable abbrev dv (D : List (Int × Int)) : V := .tup (D.map pv)
noncomputable def Small (D : List (Int × Int)) : Prop := D.length ≤ 100 ∧ ∀ p ∈ D, -100 ≤ p.1 ∧ p.1 ≤ 100 ∧ -100 ≤ p.2 ∧ p.2 ≤ 100

section
variable {y : Sy} {n : Nat} {σ : St} {Q : V → St → Prop}
theorem item0 {l : List V} {k : Int} {j : Nat} {u : V} (hz : l.length ≤ 1000000) (hj : seqIndex? k l.length = some j) (hu : l[j]? = some u) : Item y σ (.tup l) (.int k) u := ⟨j, hz, hj, hu⟩
theorem least_ok (H : Says y.B) {p : Int × Int} {D : List (Int × Int)} (hz : Small (p :: D)) (h : Q (.int p.1) σ) : CallK y (n + 1) σ (.ref 28) [dv (p :: D)] Q := by
  refine K_fn (F_least H) (by kernel_rfl) rfl fun env he => ?_
  have hl : D.length ≤ 100 := by have := hz.1; simp at this; exact ar5 this
  refine XS_cons (X_ret ?_)
  refine E_sub (E_sub (E_var he rfl (E_int ⟨pv p, item0 (j := 0) (by simp; exact ar6 hl) (seqIndex_pos (by exact ar7) (by simp <;> omega)) rfl, ?_⟩)))
  exact E_int ⟨.int p.1, item0 (j := 0) (by simp) rfl rfl, h⟩
end
end Mine
end
section
open PySem PySem.W PySem.Calls PyProof.Rows
set_option maxRecDepth 100000
set_option linter.unusedVariables false
namespace Mine
section
variable {y : Sy} {n : Nat} {σ : St} {Q : V → St → Prop} {env : Env} {W : Str → Prop}
theorem CL_dom {elt : Expr} {ifs : List Expr} {D : List (Int × Int)} {post : List V → Env1 → St → Prop} {ρ₀ : Env1} {a b : Str} {pa pb tp : Pos} {k : Nat} {S : Scope} (he : env.scope = S) (p : Int × Int → Bool) (f : Int × Int → V)
    (ha : (S.names.lookup a == some .local || S.names.lookup a == some .cell) = true) (hb : (S.names.lookup b == some .local || S.names.lookup b == some .cell) = true) (hab : a ≠ b)
    (hwa : S.names.lookup a = some .cell → W a) (hwb : S.names.lookup b = some .cell → W b)
    (hI : ∀ q ∈ D, ∀ ρ B, ρ a = some (.int q.1) → ρ b = some (.int q.2) → (∀ x, x ≠ a → x ≠ b → ρ x = ρ₀ x) → B (p q) σ → TS y n env ifs ρ σ B)
    (hE : ∀ q ∈ D, ∀ ρ Q, ρ a = some (.int q.1) → ρ b = some (.int q.2) → (∀ x, x ≠ a → x ≠ b → ρ x = ρ₀ x) → p q = true → Q (f q) σ → EV y n env ρ σ elt Q)
    (hz : D.length ≤ 1000) (hp : ∀ ρ', post ((D.filter p).map f) ρ' σ) (src : V) (hs : src = dv D) :
    CL y n env W (.Tuple [.Name a pa, .Name b pb] k tp) ifs src (D.map pv) (P1 y n env elt) post (D.map pv) [] ρ₀ σ := by
  subst hs
  have key : ∀ (E : List (Int × Int)) (acc : List V) (ρ : Env1), (∀ q ∈ E, q ∈ D) → acc.length + E.length ≤ 1000 → (∀ x, x ≠ a → x ≠ b → ρ x = ρ₀ x) → (∀ ρ', post (acc ++ (E.filter p).map f) ρ' σ) →
      CL y n env W (.Tuple [.Name a pa, .Name b pb] k tp) ifs (dv D) (D.map pv) (P1 y n env elt) post (E.map pv) acc ρ σ := by
    intro E
    induction E with
    | nil => intro acc ρ _ _ _ hp; exact ⟨rfl, by simpa using hp ρ⟩
    | cons q E ih =>
      intro acc ρ hm hz hρ hp
      rw [List.length_cons] at hz
      refine ⟨rfl, T_tup (T_var he (T_var he ?_ hwb hb) hwa ha)⟩
      have e1 : upd (upd ρ a (.int q.1)) b (.int q.2) a = some (.int q.1) := by rw [upd_ne hab, upd_self]
      have e2 : upd (upd ρ a (.int q.1)) b (.int q.2) b = some (.int q.2) := upd_self ..
      have e3 : ∀ x, x ≠ a → x ≠ b → upd (upd ρ a (.int q.1)) b (.int q.2) x = ρ₀ x := fun x h1 h2 => by rw [upd_ne h2, upd_ne h1]; exact hρ x h1 h2
      refine hI q (hm q (.head _)) _ _ e1 e2 e3 ?_
      cases hpq : p q with
      | false => exact ih acc _ (fun z hz => hm z (.tail _ hz)) (by exact ar142 hz) e3 fun ρ' => by have := hp ρ'; rw [List.filter_cons, hpq] at this; simpa using this
      | true => exact ⟨by exact ar143 hz, hE q (hm q (.head _)) _ _ e1 e2 e3 hpq (ih (acc ++ [f q]) _ (fun z hz => hm z (.tail _ hz)) (by simp; exact ar144 hz) e3 fun ρ' => by have := hp ρ'; rw [List.filter_cons, hpq] at this; simpa using this)⟩
  exact key D [] ρ₀ (fun _ h => h) (by simpa using hz) (fun _ _ _ => rfl) fun ρ' => by simpa using hp ρ'

theorem greatest_ok (H : Says y.B) {p : Int × Int} {D : List (Int × Int)} (hz : Small (D ++ [p])) (h : Q (.int p.2) σ) : CallK y (n + 1) σ (.ref 35) [dv (D ++ [p])] Q := by
  refine K_fn (F_greatest H) (by kernel_rfl) rfl fun env he => ?_
  have hl : D.length ≤ 100 := by have := hz.1; simp at this; exact ar5 this
  refine XS_cons (X_ret ?_)
  refine E_sub (E_sub (E_var he rfl (E_unary (E_int (O1_neg ⟨pv p, item0 (j := D.length) (by simp; exact ar6 hl) ?_ (by simp), ?_⟩)))))
  · rw [seqIndex_neg (by exact ar11) (by simp; exact ar145)]; simp; exact ar146
  · exact E_int ⟨.int p.2, item0 (j := 1) (by simp) rfl rfl, h⟩
noncomputable def sizeD (D : List (Int × Int)) : Int := (D.map fun p => p.2 - p.1 + 1).sum
theorem size_ok (H : Says y.B) {D : List (Int × Int)} (hz : Small D) (h : ∀ σ', σ.Le σ' → Q (.int (sizeD D)) σ') : CallK y (n + 1) σ (.ref 40) [dv D] Q := by
  refine K_fn (F_size H) (by kernel_rfl) rfl fun env he => ?_
  refine XS_cons (X_ret ?_)
  refine E_fcall he (bltFact H (k := 0) (by rfl) (by rfl)) (keeps_builtin _ _) (E_comp1 (sck he) (E_var he rfl ⟨D.map pv, fun cenv hc => ?_⟩))
  have hc := relabel_S he hc
  refine CL_dom hc (fun _ => true) (fun p => .int (p.2 - p.1 + 1)) (by rfl) (by rfl) (by decide) (fun h => by cases h) (fun h => by cases h) (fun q _ ρ B _ _ _ hB => by exact hB) (fun q hq ρ Q ea eb _ _ hQ => ?_) (by have := hz.1; exact ar147 this) (fun ρ' a ha => ?_) _ rfl
  · exact E_binop (E_binop (E_var hc eb (E_var hc ea (O2_sub (E_int (O2_add hQ))))))
  · show CallV y n _ (.builtin "sum") [_] _
    have e : (D.filter fun _ => true).map (fun p => V.int (p.2 - p.1 + 1)) = intVs (D.map fun p => p.2 - p.1 + 1) := by
      rw [List.filter_eq_self.mpr (fun _ _ => rfl)]
      simp [intVs]
    rw [e]
    exact C_sum (.of (St.put_self ..)) (h _ (St.Le.put ha))
noncomputable def nextFrom : List (Int × Int) → Int → Option Int
  | [], _ => none
  | p :: D, v => if v ≤ p.2 then some (max p.1 v) else nextFrom D v
noncomputable def optV : Option Int → V
  | some i => .int i
  | none => .val .none
theorem next_from_ok (H : Says y.B) {D : List (Int × Int)} {v : Int} (h : Q (optV (nextFrom D v)) σ) : CallK y (n + 1) σ (.ref 47) [dv D, .int v] Q := by
  refine K_fn (F_next_from H) (by kernel_rfl) rfl fun env he => ?_
  refine XS_cons (X_for (E_var he rfl ⟨D.map pv, ?_⟩))
  refine FL_ind (fun xs ρ σ' => σ' = σ ∧ ∃ E, xs = E.map pv ∧ ρ "v" = some (.int v) ∧ nextFrom E v = nextFrom D v) ?_ ?_ _ _ _ ⟨rfl, D, rfl, rfl, rfl⟩
  · rintro ρ _ ⟨rfl, E, eE, ev, e⟩
    cases E with
    | cons q E => cases eE
    | nil =>
      refine ⟨rfl, XS_cons (X_ret (E_none ?_))⟩
      rw [← e] at h; exact h
  · rintro x xs ρ _ ⟨rfl, E, eE, ev, e⟩
    cases E with
    | nil => cases eE
    | cons q E =>
      cases eE
      refine ⟨rfl, T_tup (T_var he (T_var he ?_))⟩
      refine XS_cons (X_if (B_compare (E_var he (u := .int v) (by exact ev) (E_var he (u := .int q.2) rfl (O2_le ⟨_, rfl, fun hc => ?_, fun hc => ?_⟩)))))
      · refine XS_cons (X_ret (E_fcall he (bltFact H (k := 1) (by rfl) (by rfl)) (keeps_builtin _ _) ?_))
        refine E_var he (u := .int q.1) rfl (E_var he (u := .int v) (by exact ev) ?_)
        show CallV y n _ (.builtin "max") [.int q.1, .int v] _
        refine C_max ?_
        rw [← e, nextFrom, if_pos (by simpa using hc)] at h
        exact h
      · exact XS_nil (XS_nil ⟨rfl, E, rfl, by exact ev, by rw [← e]; exact (if_neg (by simpa using hc)).symm⟩)
noncomputable def hasD (D : List (Int × Int)) (v : Int) : Bool := nextFrom D v == some v
theorem has_ok (H : Says y.B) {D : List (Int × Int)} {v : Int} (h : Q (.val (.bool (hasD D v))) σ) : CallK y (n + 2) σ (.ref 54) [dv D, .int v] Q := by
  refine K_fn (F_has H) (by kernel_rfl) rfl fun env he => ?_
  refine XS_cons (X_ret (E_compare (E_fcall he (globFact H (k := 3) (by rfl) (by rfl)) (F_next_from H).keeps (E_var he rfl (E_var he rfl ?_)))))
  refine CallK.v (next_from_ok H (E_var he (u := .int v) rfl ?_))
  cases e : nextFrom D v with
  | none => exact O2_eqNone (by unfold hasD at h; rw [e] at h; exact h)
  | some i =>
    refine O2_eqi ?_
    unfold hasD at h
    rw [e] at h
    have : (some i == some v) = (i == v) := by
      by_cases q : i = v
      · subst q; simp
      · simp [q]
    rwa [this] at h
theorem swapped_env {ts : List Expr} {v : Expr} {env env' : Env} (h : env.scope = env'.scope) : swappedStores ts v env = swappedStores ts v env' := by
  have e1 : env.blockKind = env'.blockKind := by unfold Env.blockKind; rw [h]
  have e2 : env.kindOf = env'.kindOf := by funext x; unfold Env.kindOf; rw [h]
  unfold swappedStores
  rw [e1, e2]
theorem swaps_env {v : Expr} {t : Option Expr} {l : Nat} {env env' : Env} (h : env.scope = env'.scope) : swapsWith v t l env = swapsWith v t l env' := by
  have e1 : env.blockKind = env'.blockKind := by unfold Env.blockKind; rw [h]
  have e2 : env.kindOf = env'.kindOf := by funext x; unfold Env.kindOf; rw [h]
  unfold swapsWith
  rw [e1, e2, h]
noncomputable abbrev envS (S : Scope) : Env := { scope := S, locals := 0, globals := 0, cells := [] }
theorem ty_md (i : String) (h : typeOf (.builtin i) = pure (.type "method_descriptor") := by kernel_rfl) : typeOf (.builtin i) = pure (.type "method_descriptor") := h

noncomputable def valsD (D : List (Int × Int)) : List Int := D.flatMap fun p => (List.range (p.2 + 1 - p.1).toNat).map fun (i : Nat) => p.1 + (i : Int)
theorem upInts_eq (x : Int) (k : Nat) : upInts x k = intVs ((List.range k).map fun (i : Nat) => x + (i : Int)) := by
  induction k generalizing x with
  | zero => rfl
  | succ k ih =>
    rw [upInts, ih, List.range_succ_eq_map]
    simp [intVs, Function.comp_def]
    intro a _
    exact ar47
theorem values_ok (H : Says y.B) {D : List (Int × Int)} (hz : Small D) (h : ∀ a σ', σ a = none → σ.Le σ' → σ' a = some (.list (intVs (valsD D))) → Q (.val (.ref a)) σ') : CallK y (n + 1) σ (.ref 61) [dv D] Q := by
  refine K_fn (F_values H) (by kernel_rfl) rfl fun env he => ?_
  refine XS_cons (X_assign (E_list ⟨by simp, fun a ha => T_var he ?_⟩))
  refine XS_cons (X_for (E_var he rfl ⟨D.map pv, ?_⟩))
  refine FL_ind (fun xs ρ σ' => ρ "found" = some (.val (.ref a)) ∧ ∃ E E', xs = E.map pv ∧ D = E' ++ E ∧ σ' = σ.put a (.list (intVs (valsD E')))) ?_ ?_ _ _ _ ⟨rfl, D, [], rfl, rfl, rfl⟩
  · rintro ρ σ' ⟨ev, E, E', eE, eD, rfl⟩
    cases E with
    | cons q E => cases eE
    | nil =>
      rw [List.append_nil] at eD
      subst eD
      exact ⟨rfl, XS_cons (X_ret (E_var he ev (h a _ ha (St.Le.put ha) (St.put_self ..))))⟩
  · rintro x xs ρ σ' ⟨ev, E, E', eE, eD, rfl⟩
    cases E with
    | nil => cases eE
    | cons q E =>
      cases eE
      have hq : q ∈ D := by rw [eD]; simp
      obtain ⟨b1, b2, b3, b4⟩ := hz.2 q hq
      refine ⟨rfl, T_tup (T_var he (T_var he ?_))⟩
      refine XS_cons (X_expr (E_method (E_var he (u := .val (.ref a)) (by exact ev) ⟨_, _, G_list (St.put_self ..) PySem.F.slot_list_extend (ty_md _), keeps_builtin _ _, ?_⟩)))
      refine E_fcall he (bltFact H (k := 3) (by rfl) (by rfl)) (keeps_type _ _) ?_
      refine E_var he (u := .int q.1) rfl (E_binop (E_var he (u := .int q.2) rfl (E_int (O2_add ?_))))
      refine C_range2 ?_
      have hl : (intVs (valsD E')).length ≤ 1000000 := by
        have e1 : E'.length ≤ 100 := by have := hz.1; rw [eD] at this; simp at this; exact ar148 this
        have e2 : ∀ L : List (Int × Int), (∀ p ∈ L, p ∈ D) → (valsD L).length ≤ 300 * L.length := by
          intro L
          induction L with
          | nil => intro _; simp [valsD]
          | cons p L ih =>
            intro hp
            have := ih fun z hz => hp z (.tail _ hz)
            obtain ⟨c1, c2, c3, c4⟩ := hz.2 p (hp p (.head _))
            unfold valsD at this ⊢
            rw [List.flatMap_cons, List.length_append, List.length_map, List.length_range, List.length_cons]
            exact ar149 this c1 c4
        have := e2 E' fun p hp => by rw [eD]; simp [hp]
        simp [intVs]; exact ar150 e1 this
      refine L_extend_rng (St.put_self ..) hl (by exact ar151 b1 b2) (by exact ar152 b3 b4) ?_
      refine XS_nil ⟨by exact ev, E, E' ++ [q], rfl, by rw [eD]; simp, ?_⟩
      have : ∀ (x z : AO), (σ.put a x).put a z = σ.put a z := fun x z => by funext b; unfold St.put; split <;> rfl
      rw [this, upInts_eq]
      congr 2
      simp [intVs, valsD]
noncomputable def upTo (D : List (Int × Int)) (k : Int) : List (Int × Int) := (D.filter fun p => decide (p.1 ≤ k)).map fun p => (p.1, min p.2 k)
noncomputable def fromOn (D : List (Int × Int)) (k : Int) : List (Int × Int) := (D.filter fun p => decide (k ≤ p.2)).map fun p => (max p.1 k, p.2)
theorem up_to_ok (H : Says y.B) {D : List (Int × Int)} {k : Int} (hz : Small D) (h : ∀ σ', σ.Le σ' → Q (dv (upTo D k)) σ') : CallK y (n + 1) σ (.ref 66) [dv D, .int k] Q := by
  refine K_fn (F_up_to H) (by kernel_rfl) rfl fun env he => ?_
  refine XS_cons (X_ret ?_)
  refine E_fcall he (bltFact H (k := 4) (by rfl) (by rfl)) (keeps_type _ _) (E_comp1 (sck he) (E_var he rfl ⟨D.map pv, fun cenv hc => ?_⟩))
  have hc := relabel_S he hc
  refine CL_dom hc (fun p => decide (p.1 ≤ k)) (fun p => pv (p.1, min p.2 k)) (by rfl) (by rfl) (by decide) (fun h => by cases h) (fun h => by cases h) (fun q _ ρ B ea eb er hB => ?_) (fun q hq ρ Q ea eb er _ hQ => ?_) (by have := hz.1; exact ar147 this) (fun ρ' a ha => ?_) _ rfl
  · refine B_compare (E_var hc ea (E_var hc (u := .int k) (by rw [er _ (by decide) (by decide)]; rfl) (O2_le ⟨_, rfl, ?_⟩)))
    revert hB
    cases decide (q.1 ≤ k) <;> exact fun hB => hB
  · refine E_tuple (E_var hc ea (E_fcall hc (bltFact H (k := 2) (by rfl) (by rfl)) (keeps_builtin _ _) (E_var hc eb (E_var hc (u := .int k) (by rw [er _ (by decide) (by decide)]; rfl) ?_))))
    exact C_min ⟨by simp, hQ⟩
  · show CallV y n _ (.type "tuple") [_] _
    refine C_tuple_list (.of (St.put_self ..)) ?_ ?_
    · rw [List.length_map]; exact Nat.le_trans (List.length_filter_le _ _) (by have := hz.1; exact ar153 this)
    · have := h _ (St.Le.put (x := .list ((D.filter fun p => decide (p.1 ≤ k)).map fun p => pv (p.1, min p.2 k))) ha)
      unfold dv upTo at this
      rw [List.map_map] at this
      exact this
theorem from_on_ok (H : Says y.B) {D : List (Int × Int)} {k : Int} (hz : Small D) (h : ∀ σ', σ.Le σ' → Q (dv (fromOn D k)) σ') : CallK y (n + 1) σ (.ref 71) [dv D, .int k] Q := by
  refine K_fn (F_from_on H) (by kernel_rfl) rfl fun env he => ?_
  refine XS_cons (X_ret ?_)
  refine E_fcall he (bltFact H (k := 4) (by rfl) (by rfl)) (keeps_type _ _) (E_comp1 (sck he) (E_var he rfl ⟨D.map pv, fun cenv hc => ?_⟩))
  have hc := relabel_S he hc
  refine CL_dom hc (fun p => decide (k ≤ p.2)) (fun p => pv (max p.1 k, p.2)) (by rfl) (by rfl) (by decide) (fun h => by cases h) (fun h => by cases h) (fun q _ ρ B ea eb er hB => ?_) (fun q hq ρ Q ea eb er _ hQ => ?_) (by have := hz.1; exact ar147 this) (fun ρ' a ha => ?_) _ rfl
  · refine B_compare (E_var hc eb (E_var hc (u := .int k) (by rw [er _ (by decide) (by decide)]; rfl) (O2_ge ⟨_, rfl, ?_⟩)))
    revert hB
    cases decide (k ≤ q.2) <;> exact fun hB => hB
  · refine E_tuple (E_fcall hc (bltFact H (k := 1) (by rfl) (by rfl)) (keeps_builtin _ _) (E_var hc ea (E_var hc (u := .int k) (by rw [er _ (by decide) (by decide)]; rfl) ?_)))
    exact C_max (E_var hc eb ⟨by simp, hQ⟩)
  · show CallV y n _ (.type "tuple") [_] _
    refine C_tuple_list (.of (St.put_self ..)) ?_ ?_
    · rw [List.length_map]; exact Nat.le_trans (List.length_filter_le _ _) (by have := hz.1; exact ar153 this)
    · have := h _ (St.Le.put (x := .list ((D.filter fun p => decide (k ≤ p.2)).map fun p => pv (max p.1 k, p.2))) ha)
      unfold dv fromOn at this
      rw [List.map_map] at this
      exact this
noncomputable def without (D : List (Int × Int)) (v : Int) : List (Int × Int) := upTo D (v - 1) ++ fromOn D (v + 1)
theorem without_ok (H : Says y.B) {D : List (Int × Int)} {v : Int} (hz : Small D) (h : ∀ σ', σ.Le σ' → Q (dv (without D v)) σ') : CallK y (n + 2) σ (.ref 78) [dv D, .int v] Q := by
  refine K_fn (F_without H) (by kernel_rfl) rfl fun env he => ?_
  have hl := hz.1
  refine XS_cons (X_ret (E_binop ?_))
  refine E_fcall he (globFact H (k := 6) (by rfl) (by rfl)) (F_up_to H).keeps (E_var he rfl (E_binop (E_var he (u := .int v) rfl (E_int (O2_sub ?_)))))
  refine CallK.v (up_to_ok H hz fun σ₁ l₁ => ?_)
  refine E_fcall he (globFact H (k := 7) (by rfl) (by rfl)) (F_from_on H).keeps (E_var he rfl (E_binop (E_var he (u := .int v) rfl (E_int (O2_add ?_)))))
  refine CallK.v (from_on_ok H hz fun σ₂ l₂ => ?_)
  have e1 : (upTo D (v - 1)).length ≤ D.length := by unfold upTo; rw [List.length_map]; exact List.length_filter_le ..
  have e2 : (fromOn D (v + 1)).length ≤ D.length := by unfold fromOn; rw [List.length_map]; exact List.length_filter_le ..
  refine O2_addT (by simp; exact ar154 hl e1 e2) ?_
  rw [← List.map_append]
  exact h _ (l₁.trans l₂)
end
end Mine
end
section
open PySem PySem.W PySem.Calls PyProof.Rows
set_option maxRecDepth 100000
set_option linter.unusedVariables false
namespace Mine
inductive Sg where
  | le | ge | eq | ne
  deriving DecidableEq
noncomputable def Sg.s : Sg → Str
  | .le => "<="
  | .ge => ">="
  | .eq => "="
  | .ne => "!="
noncomputable abbrev Lit := Int × Sg × Int
noncomputable abbrev lv (l : Lit) : V := .tup [.int l.1, .str l.2.1.s, .int l.2.2]
noncomputable def neg : Lit → Lit
  | (x, .le, k) => (x, .ge, k + 1)
  | (x, .ge, k) => (x, .le, k - 1)
  | (x, .eq, k) => (x, .ne, k)
  | (x, .ne, k) => (x, .eq, k)
noncomputable def meetN : Nat → List (Int × Int) → List (Int × Int) → List (Int × Int)
  | n + 1, p :: D, q :: E => (if max p.1 q.1 ≤ min p.2 q.2 then [(max p.1 q.1, min p.2 q.2)] else []) ++ (if p.2 < q.2 then meetN n D (q :: E) else meetN n (p :: D) E)
  | _, _, _ => []
noncomputable def meetD (D E : List (Int × Int)) : List (Int × Int) := meetN (D.length + E.length) D E
noncomputable def struckD (l : Lit) (D : List (Int × Int)) : List (Int × Int) := match l.2.1 with
  | .le => upTo D l.2.2
  | .ge => fromOn D l.2.2
  | .eq => meetD D [(l.2.2, l.2.2)]
  | .ne => without D l.2.2
theorem meetN_len : ∀ (n : Nat) (D E : List (Int × Int)), (meetN n D E).length ≤ n
  | 0, D, E => by unfold meetN; cases D <;> cases E <;> simp
  | n + 1, [], E => by simp [meetN]
  | n + 1, _ :: _, [] => by simp [meetN]
  | n + 1, p :: D, q :: E => by
    unfold meetN
    rw [List.length_append]
    have a := meetN_len n D (q :: E)
    have b := meetN_len n (p :: D) E
    split <;> split <;> simp <;> (first | exact ar285 a | exact ar285 b | exact ar107 a | exact ar107 b)
section
variable {y : Sy} {n : Nat} {σ : St} {Q : V → St → Prop}
theorem negation_ok (H : Says y.B) {l : Lit} (h : Q (lv (neg l)) σ) : CallK y (n + 1) σ (.ref 92) [lv l] Q := by
  obtain ⟨x, s, k⟩ := l
  refine K_fn (F_negation H) (by kernel_rfl) rfl fun env he => ?_
  refine XS_cons (X_assign (E_var he rfl (T_tup (T_var he (T_var he (T_var he ?_))))))
  intro ρ
  refine XS_cons (X_if (B_compare (E_var he (u := .str s.s) rfl (E_str (O2_eqs ⟨_, rfl, fun h1 => ?_, fun h1 => XS_nil ?_⟩)))))
  · cases s <;> first | exact absurd h1 (by decide) | skip
    exact XS_cons (X_ret (E_tuple (E_var he (u := .int x) rfl (E_str (E_binop (E_var he (u := .int k) rfl (E_int (O2_add ⟨by simp, h⟩))))))))
  refine XS_cons (X_if (B_compare (E_var he (u := .str s.s) rfl (E_str (O2_eqs ⟨_, rfl, fun h2 => ?_, fun h2 => XS_nil ?_⟩)))))
  · cases s <;> first | exact absurd h2 (by decide) | skip
    exact XS_cons (X_ret (E_tuple (E_var he (u := .int x) rfl (E_str (E_binop (E_var he (u := .int k) rfl (E_int (O2_sub ⟨by simp, h⟩))))))))
  refine XS_cons (X_ret (E_ifexp (B_compare (E_var he (u := .str s.s) rfl (E_str (O2_eqs ⟨_, rfl, fun h3 => ?_, fun h3 => ?_⟩))))))
  · cases s <;> first | exact absurd h3 (by decide) | skip
    exact E_tuple (E_var he (u := .int x) rfl (E_str (E_var he (u := .int k) rfl ⟨by simp, h⟩)))
  · cases s <;> first | exact absurd h1 (by decide) | exact absurd h2 (by decide) | exact absurd h3 (by decide) | skip
    exact E_tuple (E_var he (u := .int x) rfl (E_str (E_var he (u := .int k) rfl ⟨by simp, h⟩)))
theorem put_put (σ : St) (a : Addr) (x z : AO) : (σ.put a x).put a z = σ.put a z := by funext b; unfold St.put; split <;> rfl
theorem item_pv {p : Int × Int} {k : Int} {u : V} (h : (k = 0 ∧ u = .int p.1) ∨ (k = 1 ∧ u = .int p.2)) : Item y σ (pv p) (.int k) u := by
  rcases h with ⟨rfl, rfl⟩ | ⟨rfl, rfl⟩
  · exact item0 (j := 0) (by simp) rfl rfl
  · exact item0 (j := 1) (by simp) rfl rfl
theorem item_dv {D : List (Int × Int)} {i : Nat} (hz : D.length ≤ 1000) (hi : i < D.length) : Item y σ (dv D) (.int i) (pv D[i]) :=
  item0 (j := i) (by simp; exact ar8 hz) (by rw [seqIndex_pos (by exact ar9) (by simp; assumption)]; simp) (by simp [hi])
theorem meet_ok (H : Says y.B) {D E : List (Int × Int)} (hD : Small D) (hE : Small E) (h : ∀ σ', σ.Le σ' → Q (dv (meetD D E)) σ') : CallK y (n + 1) σ (.ref 85) [dv D, dv E] Q := by
  refine K_fn (F_meet H) (by kernel_rfl) rfl fun env he => ?_
  have lD := hD.1
  have lE := hE.1
  refine XS_cons (X_swap3 (a := "found") (b := "i") (c := "j") (by rw [swapped_env (env' := envS _) he]; rfl) (kd he) (kd he) (kd he) (E_tuple (E_list ⟨by simp, fun a ha => ?_⟩)))
  refine E_int (E_int ⟨by simp, _, _, _, rfl, ?_⟩)
  refine XS_cons (X_while (fun m ρ σ' => ∃ (i j : Nat) (acc : List (Int × Int)), ρ "found" = some (.val (.ref a)) ∧ ρ "i" = some (.int i) ∧ ρ "j" = some (.int j) ∧ ρ "d" = some (dv D) ∧ ρ "e" = some (dv E) ∧ i ≤ D.length ∧ j ≤ E.length ∧
    σ' = σ.put a (.list (acc.map pv)) ∧ m = (D.length - i) + (E.length - j) ∧ acc.length + m ≤ D.length + E.length ∧ acc ++ meetN m (D.drop i) (E.drop j) = meetD D E) ?_ (D.length + E.length)
    ⟨0, 0, [], rfl, rfl, rfl, rfl, rfl, Nat.zero_le _, Nat.zero_le _, rfl, rfl, by simp, by simp [meetD]⟩)
  rintro m ρ σ' ⟨i, j, acc, ef, ei, ej, ed, ee, hi, hj, rfl, hm, hac, hacc⟩
  refine BV.mono (B := fun c σ' => σ' = σ.put a (.list (acc.map pv)) ∧ c = (decide (i < D.length) && decide (j < E.length))) (B_boolop ?_) ?_
  · refine B_compare (E_var he ei (E_fcall he (bltFact H (k := 5) (by rfl) (by rfl)) (keeps_builtin _ _) (E_var he ed (C_len_tup (by simp; exact ar153 lD) (O2_lt ⟨_, rfl, ?_⟩)))))
    by_cases hc : i < D.length
    · have e1 : decide ((i : Int) < ((D.map pv).length : Int)) = true := by simp [hc]
      rw [e1]
      refine B_compare (E_var he ej (E_fcall he (bltFact H (k := 5) (by rfl) (by rfl)) (keeps_builtin _ _) (E_var he ee (C_len_tup (by simp; exact ar153 lE) (O2_lt ⟨_, rfl, ?_⟩)))))
      by_cases hc' : j < E.length
      · have e2 : decide ((j : Int) < ((E.map pv).length : Int)) = true := by simp [hc']
        rw [e2]
        exact ⟨rfl, by simp [hc, hc']⟩
      · have e2 : decide ((j : Int) < ((E.map pv).length : Int)) = false := by simp [hc']
        rw [e2]
        exact ⟨rfl, by simp [hc']⟩
    · have e1 : decide ((i : Int) < ((D.map pv).length : Int)) = false := by simp [hc]
      rw [e1]
      exact ⟨rfl, by simp [hc]⟩
  rintro c _ ⟨rfl, rfl⟩
  refine ⟨fun hc => ?_, fun hc => ?_⟩
  · simp only [Bool.and_eq_true, decide_eq_true_eq] at hc
    obtain ⟨hci, hcj⟩ := hc
    refine XS_cons (X_swap2 (a := "low") (b := "high") (by rw [swapped_env (env' := envS _) he]; rfl) (kd he) (kd he) (E_tuple (E_fcall he (bltFact H (k := 1) (by rfl) (by rfl)) (keeps_builtin _ _) ?_)))
    refine E_sub (E_sub (E_var he ed (E_var he ei ⟨_, item_dv (by exact ar147 lD) hci, E_int ⟨_, item_pv (.inl ⟨rfl, rfl⟩), ?_⟩⟩)))
    refine E_sub (E_sub (E_var he ee (E_var he ej ⟨_, item_dv (by exact ar147 lE) hcj, E_int ⟨_, item_pv (.inl ⟨rfl, rfl⟩), ?_⟩⟩)))
    refine C_max (E_fcall he (bltFact H (k := 2) (by rfl) (by rfl)) (keeps_builtin _ _) ?_)
    refine E_sub (E_sub (E_var he ed (E_var he ei ⟨_, item_dv (by exact ar147 lD) hci, E_int ⟨_, item_pv (.inr ⟨rfl, rfl⟩), ?_⟩⟩)))
    refine E_sub (E_sub (E_var he ee (E_var he ej ⟨_, item_dv (by exact ar147 lE) hcj, E_int ⟨_, item_pv (.inr ⟨rfl, rfl⟩), ?_⟩⟩)))
    refine C_min ⟨by simp, _, _, rfl, ?_⟩
    have hD' : D.drop i = D[i] :: D.drop (i + 1) := List.drop_eq_getElem_cons hci
    have hE' : E.drop j = E[j] :: E.drop (j + 1) := List.drop_eq_getElem_cons hcj
    obtain ⟨m', rfl⟩ : ∃ m', m = m' + 1 := ⟨m - 1, by exact ar286 hm hcj⟩
    rw [hD', hE', meetN] at hacc
    refine XS_cons (EX.mono (Q := fun g ρ' σ' => g = .next ∧ ρ' = upd (upd ρ "high" (.int (min D[i].2 E[j].2))) "low" (.int (max D[i].1 E[j].1)) ∧
      σ' = σ.put a (.list ((acc ++ if max D[i].1 E[j].1 ≤ min D[i].2 E[j].2 then [(max D[i].1 E[j].1, min D[i].2 E[j].2)] else []).map pv))) ?_ ?_)
    · refine X_if (B_compare (E_var he (u := .int (max D[i].1 E[j].1)) rfl (E_var he (u := .int (min D[i].2 E[j].2)) rfl (O2_le ⟨_, rfl, fun hc => ?_, fun hc => ?_⟩))))
      · refine XS_cons (X_expr (E_method (E_var he (u := .val (.ref a)) (by exact ef) ⟨_, _, G_list (St.put_self ..) PySem.F.slot_list_append (ty_md _), keeps_builtin _ _, ?_⟩)))
        refine E_tuple (E_var he (u := .int (max D[i].1 E[j].1)) rfl (E_var he (u := .int (min D[i].2 E[j].2)) rfl ⟨by simp, ?_⟩))
        refine L_append (St.put_self ..) (by simp; exact ar287 lD lE hac) ?_
        refine XS_nil ⟨rfl, rfl, ?_⟩
        rw [put_put, if_pos (by simpa using hc)]
        simp
      · refine XS_nil ⟨rfl, rfl, ?_⟩
        rw [if_neg (by simpa using hc), List.append_nil]
    · rintro g ρ' σ' ⟨rfl, rfl, rfl⟩
      generalize hA : (acc ++ if max D[i].1 E[j].1 ≤ min D[i].2 E[j].2 then [(max D[i].1 E[j].1, min D[i].2 E[j].2)] else []) = acc'
      have la : acc'.length ≤ acc.length + 1 := by rw [← hA, List.length_append]; split <;> simp
      rw [← List.append_assoc, hA] at hacc
      skip
      refine XS_cons (X_if (B_compare (E_sub (E_sub (E_var he (u := dv D) (by exact ed) (E_var he (u := .int i) (by exact ei) ⟨_, item_dv (by exact ar147 lD) hci, E_int ⟨_, item_pv (.inr ⟨rfl, rfl⟩), ?_⟩⟩))))))
      refine E_sub (E_sub (E_var he (u := dv E) (by exact ee) (E_var he (u := .int j) (by exact ej) ⟨_, item_dv (by exact ar147 lE) hcj, E_int ⟨_, item_pv (.inr ⟨rfl, rfl⟩), O2_lt ⟨_, rfl, fun hc => ?_, fun hc => ?_⟩⟩⟩)))
      · refine XS_cons (X_assign (E_binop (E_var he (u := .int i) (by exact ei) (E_int (O2_add (T_var he ?_))))))
        intro ρ
        rw [if_pos (by simpa using hc)] at hacc
        refine XS_nil (XS_nil ⟨m', by exact Nat.le_refl _, i + 1, j, acc', by exact ef, by show some (V.int _) = _; simp, by exact ej, by exact ed, by exact ee, by assumption, by assumption, rfl, by exact ar289 hci hm, by exact ar290 hac la, ?_⟩)
        rw [hE']; exact hacc
      · refine XS_cons (X_assign (E_binop (E_var he (u := .int j) (by exact ej) (E_int (O2_add (T_var he ?_))))))
        intro ρ
        rw [if_neg (by simpa using hc)] at hacc
        refine XS_nil (XS_nil ⟨m', by exact Nat.le_refl _, i, j + 1, acc', by exact ef, by exact ei, by show some (V.int _) = _; simp, by exact ed, by exact ee, by assumption, by assumption, rfl, by exact ar291 hcj hm, by exact ar290 hac la, ?_⟩)
        rw [hD']; exact hacc
  · have hc : i = D.length ∨ j = E.length := by
      rw [Bool.and_eq_false_iff, decide_eq_false_iff_not, decide_eq_false_iff_not] at hc
      exact ar292 hi hj hc
    have e1 : acc = meetD D E := by
      rw [← hacc]
      have : meetN m (D.drop i) (E.drop j) = [] := by
        rcases hc with rfl | rfl
        · rw [List.drop_length]; cases m <;> simp [meetN]
        · rw [List.drop_length]; cases m <;> cases D.drop i <;> simp [meetN]
      rw [this, List.append_nil]
    refine XS_cons (X_ret (E_fcall he (bltFact H (k := 4) (by rfl) (by rfl)) (keeps_type _ _) (E_var he ef ?_)))
    refine C_tuple_list (.of (St.put_self ..)) (by simp; exact ar293 lD lE hac) ?_
    have := h _ (St.Le.put (x := .list (acc.map pv)) ha)
    rw [← e1] at this
    exact this
theorem small_meet {D E : List (Int × Int)} (hE : E.length ≤ 1) (h : Small D) : (meetD D E).length ≤ 101 := by
  have := meetN_len (D.length + E.length) D E
  have := h.1
  unfold meetD; exact ar294 hE (by assumption) this
theorem struck_ok (H : Says y.B) {l : Lit} {D : List (Int × Int)} (hz : Small D) (hk : -100 ≤ l.2.2 ∧ l.2.2 ≤ 100) (h : ∀ σ', σ.Le σ' → Q (dv (struckD l D)) σ') : CallK y (n + 3) σ (.ref 99) [lv l, dv D] Q := by
  obtain ⟨x, s, k⟩ := l
  refine K_fn (F_struck H) (by kernel_rfl) rfl fun env he => ?_
  refine XS_cons (X_swap2 (a := "sign") (b := "k") (by rw [swapped_env (env' := envS _) he]; rfl) (kd he) (kd he) (E_tuple (E_sub (E_var he rfl (E_int ⟨.str s.s, item0 (j := 1) (by simp) rfl rfl, ?_⟩)))))
  refine E_sub (E_var he rfl (E_int ⟨.int k, item0 (j := 2) (by simp) rfl rfl, by simp, _, _, rfl, ?_⟩))
  refine XS_cons (X_if (B_compare (E_var he (u := .str s.s) rfl (E_str (O2_eqs ⟨_, rfl, fun h1 => ?_, fun h1 => XS_nil ?_⟩)))))
  · cases s <;> first | exact absurd h1 (by decide) | skip
    refine XS_cons (X_ret (E_fcall he (globFact H (k := 6) (by rfl) (by rfl)) (F_up_to H).keeps (E_var he (u := dv D) rfl (E_var he (u := .int k) rfl ?_))))
    exact CallK.v (up_to_ok H hz fun σ' l => h σ' l)
  refine XS_cons (X_if (B_compare (E_var he (u := .str s.s) rfl (E_str (O2_eqs ⟨_, rfl, fun h2 => ?_, fun h2 => XS_nil ?_⟩)))))
  · cases s <;> first | exact absurd h2 (by decide) | skip
    refine XS_cons (X_ret (E_fcall he (globFact H (k := 7) (by rfl) (by rfl)) (F_from_on H).keeps (E_var he (u := dv D) rfl (E_var he (u := .int k) rfl ?_))))
    exact CallK.v (from_on_ok H hz fun σ' l => h σ' l)
  refine XS_cons (X_ret (E_ifexp (B_compare (E_var he (u := .str s.s) rfl (E_str (O2_eqs ⟨_, rfl, fun h3 => ?_, fun h3 => ?_⟩))))))
  · cases s <;> first | exact absurd h3 (by decide) | skip
    refine E_fcall he (globFact H (k := 9) (by rfl) (by rfl)) (F_meet H).keeps (E_var he (u := dv D) rfl (E_tuple (E_tuple (E_var he (u := .int k) rfl (E_var he (u := .int k) rfl ⟨by simp, by simp, ?_⟩)))))
    exact CallK.v (meet_ok H (E := [(k, k)]) hz ⟨by simp, by intro p hp; simp at hp; subst hp; exact ⟨hk.1, hk.2, hk.1, hk.2⟩⟩ fun σ' l => h σ' l)
  · cases s <;> first | exact absurd h1 (by decide) | exact absurd h2 (by decide) | exact absurd h3 (by decide) | skip
    refine E_fcall he (globFact H (k := 8) (by rfl) (by rfl)) (F_without H).keeps (E_var he (u := dv D) rfl (E_var he (u := .int k) rfl ?_))
    exact CallK.v (without_ok H hz fun σ' l => h σ' l)
end
end Mine
end
section
open PySem PySem.W PySem.Calls PyProof.Rows
set_option maxRecDepth 100000
set_option linter.unusedVariables false
namespace Mine
noncomputable abbrev Dom := List (Int × Int)
structure TE where
  old : Dom
  lit : Lit
  why : Option (List Lit)
noncomputable def whyV : Option (List Lit) → V
  | none => .val .none
  | some l => .tup (l.map lv)
noncomputable def TE.v (t : TE) : V := .tup [.int t.lit.1, dv t.old, lv t.lit, whyV t.why, .int (-1)]
structure SS where
  doms : List Dom
  firsts : List Dom
  trail : List TE
  marks : List Int
  failed : Bool
  clash : List Lit
  news : Nat
structure SC where
  d : Addr
  dm : Addr
  fs : Addr
  tr : Addr
  ms : Addr
  nw : Addr
noncomputable def own (a : Addr) (c : SC) : List Addr := [a, c.d, c.dm, c.fs, c.tr, c.ms, c.nw]
noncomputable def sattr (c : SC) (S : SS) (x : Str) : Option V :=
  if x = "domains" then some (.val (.ref c.dm)) else if x = "firsts" then some (.val (.ref c.fs)) else if x = "trail" then some (.val (.ref c.tr)) else if x = "marks" then some (.val (.ref c.ms)) else
  if x = "news" then some (.val (.ref c.nw)) else if x = "speaker" then some (.int (-1)) else if x = "is_failed" then some (.val (.bool S.failed)) else if x = "clash" then some (.tup (S.clash.map lv)) else none
structure SA (σ : St) (a : Addr) (c : SC) (S : SS) : Prop where
  inst : σ a = some (.inst 256 c.d)
  att : σ c.d = some (.attrs 8 (sattr c S))
  dm : σ c.dm = some (.list (S.doms.map dv))
  fs : σ c.fs = some (.list (S.firsts.map dv))
  tr : σ c.tr = some (.list (S.trail.map TE.v))
  ms : σ c.ms = some (.list (S.marks.map .int))
  nw : σ c.nw = some (.idict S.news)
  nodup : (own a c).Nodup
noncomputable def Fr (a : Addr) (c : SC) (σ : St) (c' : SC) (σ' : St) : Prop := ∀ b x, b ∉ own a c → σ b = some x → σ' b = some x ∧ b ∉ own a c'
theorem Fr.le {a : Addr} {c : SC} {σ σ' : St} (h : σ.Le σ') : Fr a c σ c σ' := fun b x n e => ⟨h b x e, n⟩
theorem Fr.trans {a : Addr} {c₁ c₂ c₃ : SC} {σ₁ σ₂ σ₃ : St} (x : Fr a c₁ σ₁ c₂ σ₂) (z : Fr a c₂ σ₂ c₃ σ₃) : Fr a c₁ σ₁ c₃ σ₃ := fun b o n e => by
  obtain ⟨e', n'⟩ := x b o n e
  exact z b o n' e'
theorem SA.le {σ σ' : St} {a : Addr} {c : SC} {S : SS} (x : SA σ a c S) (l : σ.Le σ') : SA σ' a c S :=
  ⟨l _ _ x.inst, l _ _ x.att, l _ _ x.dm, l _ _ x.fs, l _ _ x.tr, l _ _ x.ms, l _ _ x.nw, x.nodup⟩
theorem lvs_str {x : Str} (h : x = x) : True := trivial

section
variable {y : Sy} {n : Nat} {σ : St} {Q : V → St → Prop} {env : Env} {W : Str → Prop} {ρ : Env1} {a : Addr} {c : SC} {S : SS}
theorem clsS (H : Says y.B) : ∃ K : Frag, K.In y.B ∧ ClsF K 256 ∧ makesIn K 256 = true ∧ keepIn K (.ref 256) = true ∧ (∀ x ∈ storeAttrs, findIn K (.ref 256) x = some none) ∧
    ∀ p ∈ storeMeths, findIn K (.ref 256) p.1 = some (some (.ref p.2)) ∧ typeIn K (.ref p.2) = some (.type "function") := by
  obtain ⟨K, X, e⟩ := kFact H
  unfold kOk at e
  simp only [Bool.and_eq_true] at e
  obtain ⟨⟨⟨⟨⟨⟨e1, _⟩, e3⟩, e4⟩, _⟩, _⟩, _⟩ := e
  unfold clsOk at e1
  simp only [Bool.and_eq_true, decide_eq_true_eq] at e1
  obtain ⟨⟨⟨⟨⟨⟨a1, a2⟩, a3⟩, a4⟩, a5⟩, a6⟩, a7⟩ := e1
  refine ⟨K, X, ⟨a1, a2, a3, a4, a5⟩, a6, a7, fun x hx => ?_, fun p hp => ?_⟩
  · exact of_decide_eq_true (List.all_eq_true.mp e3 x hx)
  · have := List.all_eq_true.mp e4 p hp
    simpa using this
theorem sattr_mem {x : Str} {u : V} (h : sattr c S x = some u) : x ∈ storeAttrs := by
  unfold sattr at h
  repeat' split at h
  all_goals first | (subst_vars; decide) | cases h
theorem sattr_none {x : Str} (h : x ∉ storeAttrs) : sattr c S x = none := by
  cases e : sattr c S x with
  | none => rfl
  | some u => exact absurd (sattr_mem e) h
structure KSA (a : Addr) (c : SC) (S : SS) (Q : V → St → Prop) (u x : V) (σ' : St) : Prop where
  e : x = .val (.ref a)
  A : SA σ' a c S
  q : Q u σ'
structure KSM (y : Sy) (n : Nat) (env : Env) (ρ : Env1) (a : Addr) (c : SC) (S : SS) (f₀ : Addr) (args : List Expr) (Q : V → St → Prop) (x : V) (σ₁ : St) : Prop where
  e : x = .val (.ref a)
  A : SA σ₁ a c S
  q : EVs y n env ρ args (kCallM y n f₀ a Q) σ₁
theorem E_sattr (H : Says y.B) {o : Expr} {name : Str} {pos : Pos} {u : V} (h : EV y n env ρ σ o (KSA a c S Q u)) (hu : sattr c S name = some u) (hh : u.handed = true := by rfl)
    (he : eval (.Attribute o name pos) env = (do
      let x ← eval o env
      standAt pos.atName
      let r ← holding [x] (getAttr x name true)
      letTemporaryGo o x r
      pure r) := by with_unfolding_all rfl) : EV y n env ρ σ (.Attribute o name pos) Q := by
  obtain ⟨K, X, hc, _, _, ha, _⟩ := clsS H
  exact E_attr X hc (h.mono fun x σ' ⟨e, A, q⟩ => ⟨a, c.d, 8, _, u, e, A.inst, A.att, hu, hh, q⟩) (ha _ (sattr_mem hu)) he
theorem E_smeth (H : Says y.B) {o : Expr} {name : Str} {f₀ : Addr} {apos pos : Pos} {args : List Expr} (h : EV y n env ρ σ o (KSM y n env ρ a c S f₀ args Q))
    (hk : Keeps y (.ref f₀)) (hm : (name, f₀) ∈ storeMeths := by decide) (hn : name ∉ storeAttrs := by decide) (hbase : attributeBase o name env (eval o env) = eval o env := by rfl) (hline : (apos.endLine == pos.line) = true := by rfl) (hlen : decide (args.length < 30) = true := by rfl) (hs : args.all plainE = true := by rfl) :
    EV y n env ρ σ (.Call (.Attribute o name apos) args [] pos) Q := by
  obtain ⟨K, X, hc, _, _, _, hms⟩ := clsS H
  obtain ⟨m1, m2⟩ := hms _ hm
  exact E_method (h.mono fun x σ' ⟨e, A, q⟩ => ⟨.ref f₀, [.val (.ref a)], by subst e; exact G_inst X hc A.inst A.att m1 m2 (sattr_none hn), hk, q⟩) hbase hline hlen hs

theorem s_size_ok (H : Says y.B) (A : SA σ a c S) (hz : S.doms.length ≤ 1000) (h : Q (.int S.doms.length) σ) : CallK y (n + 1) σ (.ref 134) [.val (.ref a)] Q := by
  refine K_fn (F_s_size H) (by kernel_rfl) rfl fun env he => ?_
  refine XS_cons (X_ret (E_fcall he (bltFact H (k := 5) (by rfl) (by rfl)) (keeps_builtin _ _) ?_))
  refine E_sattr H (E_var he rfl ⟨rfl, A, ?_⟩) rfl
  exact C_len_list (.of A.dm) (by simp; exact ar8 hz) (by show Q _ _; simpa using h)
theorem s_dom_ok (H : Says y.B) (A : SA σ a c S) (hz : S.doms.length ≤ 1000) {x : Nat} (hx : x < S.doms.length) (h : Q (dv S.doms[x]) σ) : CallK y (n + 1) σ (.ref 141) [.val (.ref a), .int x] Q := by
  refine K_fn (F_s_dom H) (by kernel_rfl) rfl fun env he => ?_
  refine XS_cons (X_ret (E_sub (E_sattr H (E_var he rfl ⟨rfl, A, ?_⟩) rfl)))
  exact E_var he (u := .int x) rfl ⟨dv S.doms[x], ⟨_, x, .of A.dm, by simp; exact ar8 hz, by rw [seqIndex_pos (by exact ar9) (by simp; assumption)]; simp, by simp [hx]⟩, h⟩
end
end Mine
end
section
open PySem PySem.W PySem.Calls PyProof.Rows
set_option maxRecDepth 100000
set_option linter.unusedVariables false
namespace Mine
section
variable {y : Sy} {n : Nat} {σ : St} {Q : V → St → Prop} {env : Env} {W : Str → Prop} {ρ : Env1} {a : Addr} {c : SC} {S : SS}
theorem item_doms {y : Sy} {σ : St} {b : Addr} {L : List Dom} (e : σ b = some (.list (L.map dv))) (hz : L.length ≤ 1000) {x : Nat} (hx : x < L.length) : Item y σ (.val (.ref b)) (.int x) (dv L[x]) :=
  ⟨_, x, .of e, by simp; exact ar8 hz, by rw [seqIndex_pos (by exact ar9) (by simp; assumption)]; simp, by simp [hx]⟩
theorem s_initial_ok (H : Says y.B) (A : SA σ a c S) (hz : S.firsts.length ≤ 1000) {x : Nat} (hx : x < S.firsts.length) (h : Q (dv S.firsts[x]) σ) : CallK y (n + 1) σ (.ref 148) [.val (.ref a), .int x] Q := by
  refine K_fn (F_s_initial H) (by kernel_rfl) rfl fun env he => ?_
  exact XS_cons (X_ret (E_sub (E_sattr H (E_var he rfl ⟨rfl, A, E_var he (u := .int x) rfl ⟨_, item_doms A.fs hz hx, h⟩⟩) rfl)))
theorem s_low_ok (H : Says y.B) (A : SA σ a c S) (hz : S.doms.length ≤ 1000) {x : Nat} (hx : x < S.doms.length) {p : Int × Int} {D : Dom} (e : S.doms[x] = p :: D) (hs : Small (p :: D)) (h : Q (.int p.1) σ) : CallK y (n + 2) σ (.ref 155) [.val (.ref a), .int x] Q := by
  refine K_fn (F_s_low H) (by kernel_rfl) rfl fun env he => ?_
  refine XS_cons (X_ret (E_fcall he (globFact H (k := 0) (by rfl) (by rfl)) (F_least H).keeps ?_))
  refine E_sub (E_sattr H (E_var he rfl ⟨rfl, A, E_var he (u := .int x) rfl ⟨_, item_doms A.dm hz hx, ?_⟩⟩) rfl)
  rw [e]
  exact CallK.v (least_ok H hs h)
theorem s_high_ok (H : Says y.B) (A : SA σ a c S) (hz : S.doms.length ≤ 1000) {x : Nat} (hx : x < S.doms.length) {p : Int × Int} {D : Dom} (e : S.doms[x] = D ++ [p]) (hs : Small (D ++ [p])) (h : Q (.int p.2) σ) : CallK y (n + 2) σ (.ref 162) [.val (.ref a), .int x] Q := by
  refine K_fn (F_s_high H) (by kernel_rfl) rfl fun env he => ?_
  refine XS_cons (X_ret (E_fcall he (globFact H (k := 1) (by rfl) (by rfl)) (F_greatest H).keeps ?_))
  refine E_sub (E_sattr H (E_var he rfl ⟨rfl, A, E_var he (u := .int x) rfl ⟨_, item_doms A.dm hz hx, ?_⟩⟩) rfl)
  rw [e]
  exact CallK.v (greatest_ok H hs h)
noncomputable def fixedD : Dom → Bool
  | [p] => p.1 == p.2
  | _ => false
theorem s_is_fixed_ok (H : Says y.B) (A : SA σ a c S) (hz : S.doms.length ≤ 1000) {x : Nat} (hx : x < S.doms.length) (hs : Small S.doms[x]) (h : Q (.val (.bool (fixedD S.doms[x]))) σ) : CallK y (n + 1) σ (.ref 176) [.val (.ref a), .int x] Q := by
  refine K_fn (F_s_is_fixed H) (by kernel_rfl) rfl fun env he => ?_
  have hl := hs.1
  refine XS_cons (X_assign (E_sub (E_sattr H (E_var he rfl ⟨rfl, A, E_var he (u := .int x) rfl ⟨_, item_doms A.dm hz hx, T_var he ?_⟩⟩) rfl)))
  generalize S.doms[x] = D at *
  refine XS_cons (X_ret (E_and2 (E_compare (E_fcall he (bltFact H (k := 5) (by rfl) (by rfl)) (keeps_builtin _ _) (E_var he (u := dv D) rfl (C_len_tup (by simp; exact ar153 hl) (E_int (O2_eqi ⟨_, rfl, fun hc => ?_, fun hc => ?_⟩))))))))
  · match D, hc, h with
    | [p], _, h =>
      refine E_compare (E_sub (E_sub (E_var he (u := dv [p]) rfl (E_int ⟨_, item_dv (D := [p]) (i := 0) (by simp) (by simp), E_int ⟨_, item_pv (.inl ⟨rfl, rfl⟩), ?_⟩⟩))))
      exact E_sub (E_sub (E_var he (u := dv [p]) rfl (E_int ⟨_, item_dv (D := [p]) (i := 0) (by simp) (by simp), E_int ⟨_, item_pv (.inr ⟨rfl, rfl⟩), O2_eqi h⟩⟩)))
    | [], hc, _ => exact absurd hc (by decide)
    | _ :: _ :: _, hc, _ => simp at hc; exact ar295 hc
  · have : fixedD D = false := by
      match D, hc with
      | [p], hc => exact absurd hc (by simp)
      | [], _ => rfl
      | _ :: _ :: _, _ => rfl
    rw [this] at h; exact h
theorem s_value_ok (H : Says y.B) (A : SA σ a c S) (hz : S.doms.length ≤ 1000) {x : Nat} (hx : x < S.doms.length) {p : Int × Int} {D : Dom} (e : S.doms[x] = p :: D) (hs : Small (p :: D)) (h : Q (.int p.1) σ) : CallK y (n + 1) σ (.ref 183) [.val (.ref a), .int x] Q := by
  refine K_fn (F_s_value H) (by kernel_rfl) rfl fun env he => ?_
  have hl := hs.1
  refine XS_cons (X_ret (E_sub (E_sub (E_sub (E_sattr H (E_var he rfl ⟨rfl, A, E_var he (u := .int x) rfl ⟨_, item_doms A.dm hz hx, ?_⟩⟩) rfl)))))
  rw [e]
  exact E_int ⟨_, item_dv (D := p :: D) (i := 0) (by exact ar147 hl) (by simp), E_int ⟨_, item_pv (.inl ⟨rfl, rfl⟩), h⟩⟩
theorem s_width_ok (H : Says y.B) (A : SA σ a c S) (hz : S.doms.length ≤ 1000) {x : Nat} (hx : x < S.doms.length) (hs : Small S.doms[x]) (h : ∀ σ', σ.Le σ' → Q (.int (sizeD S.doms[x])) σ') : CallK y (n + 2) σ (.ref 190) [.val (.ref a), .int x] Q := by
  refine K_fn (F_s_width H) (by kernel_rfl) rfl fun env he => ?_
  refine XS_cons (X_ret (E_fcall he (globFact H (k := 29) (by rfl) (by rfl)) (F_size H).keeps ?_))
  refine E_sub (E_sattr H (E_var he rfl ⟨rfl, A, E_var he (u := .int x) rfl ⟨_, item_doms A.dm hz hx, ?_⟩⟩) rfl)
  exact CallK.v (size_ok H hs fun σ' l => h σ' l)

theorem SA.ne {σ : St} (A : SA σ a c S) : c.d ≠ a ∧ c.d ≠ c.dm ∧ c.d ≠ c.fs ∧ c.d ≠ c.tr ∧ c.d ≠ c.ms ∧ c.d ≠ c.nw ∧ c.dm ≠ a ∧ c.dm ≠ c.fs ∧ c.dm ≠ c.tr ∧ c.dm ≠ c.ms ∧ c.dm ≠ c.nw ∧ c.tr ≠ a ∧ c.tr ≠ c.fs ∧ c.tr ≠ c.ms ∧ c.tr ≠ c.nw ∧
    c.ms ≠ a ∧ c.ms ≠ c.fs ∧ c.ms ≠ c.nw ∧ c.nw ≠ a ∧ c.nw ≠ c.fs ∧ c.fs ≠ a := by
  have := A.nodup
  simp only [own, List.nodup_cons, List.mem_cons, List.not_mem_nil, not_or, or_false] at this
  obtain ⟨⟨a1, a2, a3, a4, a5, a6⟩, ⟨b1, b2, b3, b4, b5⟩, ⟨c1, c2, c3, c4⟩, ⟨d1, d2, d3⟩, ⟨e1, e2⟩, f1, _⟩ := this
  exact ⟨Ne.symm a1, b1, b2, b3, b4, b5, Ne.symm a2, c1, c2, c3, c4, Ne.symm a4, Ne.symm d1, e1, e2, Ne.symm a5, Ne.symm d2, f1, Ne.symm a6, Ne.symm d3, Ne.symm a3⟩
theorem Fr.put {σ : St} {b : Addr} {x : AO} (h : b ∈ own a c) : Fr a c σ c (σ.put b x) := fun z o n e => ⟨by rw [St.put_ne (by rintro rfl; exact n h)]; exact e, n⟩
theorem SA.setA {σ : St} (A : SA σ a c S) {S' : SS} {name : Str} {u : V} (hn : (sattr c S name).isSome = true) (he : (fun x => if x = name then some u else sattr c S x) = sattr c S') (hd : S'.doms = S.doms) (hf : S'.firsts = S.firsts) (ht : S'.trail = S.trail) (hm : S'.marks = S.marks) (hw : S'.news = S.news) :
    SA (σ.put c.d (.attrs (bump 8 (sattr c S) name) fun x => if x = name then some u else sattr c S x)) a c S' := by
  obtain ⟨n1, n2, n3, n4, n5, n6, _⟩ := A.ne
  have eb : bump 8 (sattr c S) name = 8 := by unfold bump; rw [hn]; rfl
  rw [eb, he]
  exact ⟨(St.put_ne (Ne.symm n1)).trans A.inst, St.put_self .., (St.put_ne (Ne.symm n2)).trans (by rw [hd]; exact A.dm), (St.put_ne (Ne.symm n3)).trans (by rw [hf]; exact A.fs), (St.put_ne (Ne.symm n4)).trans (by rw [ht]; exact A.tr),
    (St.put_ne (Ne.symm n5)).trans (by rw [hm]; exact A.ms), (St.put_ne (Ne.symm n6)).trans (by rw [hw]; exact A.nw), A.nodup⟩
theorem T_sattr (H : Says y.B) {o : Expr} {name : Str} {pos : Pos} {u : V} {R : Env1 → St → Prop} (h : EV y n env ρ σ o fun x σ' => x = .val (.ref a) ∧ SA σ' a c S ∧ R ρ (σ'.put c.d (.attrs (bump 8 (sattr c S) name) fun x => if x = name then some u else sattr c S x))) (hn : name ∈ storeAttrs := by decide) :
    AT y n env W (.Attribute o name pos) u ρ σ R := by
  obtain ⟨K, X, hc, _, _, ha, _⟩ := clsS H
  exact T_attr X hc (h.mono fun x σ' ⟨e, A, q⟩ => ⟨a, c.d, 8, _, e, A.inst, A.att, by exact ar296, q⟩) (ha _ hn)
theorem s_fail_ok (H : Says y.B) (A : SA σ a c S) {ls : List Lit} (hz : ls.length ≤ 1000)
    (h : ∀ σ', SA σ' a c { S with failed := true, clash := ls } → Fr a c σ c σ' → Q (.val (.bool false)) σ') : CallK y (n + 1) σ (.ref 225) [.val (.ref a), .tup (ls.map lv)] Q := by
  refine K_fn (F_s_fail H) (by kernel_rfl) rfl fun env he => ?_
  refine XS_cons (X_assign (E_bool (T_sattr H (E_var he rfl ⟨rfl, A, ?_⟩))))
  have A₁ : SA _ a c { S with failed := true } := A.setA (name := "is_failed") (u := .val (.bool true)) (by rfl) (by
    funext x
    by_cases hx : x = "is_failed"
    · subst hx; rfl
    · simp only [hx, if_false, sattr]) rfl rfl rfl rfl rfl
  refine XS_cons (X_assign (E_fcall he (bltFact H (k := 4) (by rfl) (by rfl)) (keeps_type _ _) (E_var he (u := .tup (ls.map lv)) rfl (C_tuple_tup (T_sattr H (E_var he (u := .val (.ref a)) rfl ⟨rfl, A₁, ?_⟩))))))
  have A₂ : SA _ a c { S with failed := true, clash := ls } := A₁.setA (name := "clash") (u := .tup (ls.map lv)) (by rfl) (by
    funext x
    by_cases hx : x = "clash"
    · subst hx; rfl
    · simp only [hx, if_false, sattr]) rfl rfl rfl rfl rfl
  refine XS_cons (X_ret (E_bool (h _ A₂ ?_)))
  exact (Fr.put (by simp [own])).trans (Fr.put (by simp [own]))
end
end Mine
end
section
open PySem PySem.W PySem.Calls PyProof.Rows
set_option maxRecDepth 100000
set_option linter.unusedVariables false
namespace Mine
noncomputable def datD (D : Dom) : Dat := .tuple (D.map fun p => .tuple [.int p.1, .int p.2])
theorem datD_inj {D E : Dom} : datD D = datD E ↔ D = E := by
  constructor
  · intro h
    unfold datD at h
    have h := Dat.tuple.inj h
    refine List.map_inj_right (f := fun p : Int × Int => Dat.tuple [.int p.1, .int p.2]) ?_ |>.mp h
    rintro ⟨a, b⟩ ⟨c, d⟩ e
    simp at e
    rw [e.1, e.2]
  · rintro rfl; rfl
theorem rdl_dv (y : Sy) (σ : St) (D : Dom) : RdL y σ (D.map pv) (D.map fun p => Dat.tuple [.int p.1, .int p.2]) := by
  induction D with
  | nil => exact .nil
  | cons p D ih => exact .cons (.tup (.cons (.int _) (.cons (.int _) .nil))) ih
theorem rd_dv (y : Sy) (σ : St) (D : Dom) : Rd y σ (dv D) (datD D) := .tup (rdl_dv y σ D)
theorem ok_dv (D : Dom) (k : Nat) (h : 2 ≤ k) : kqdOk k (datD D) = true := by
  obtain ⟨m, rfl⟩ : ∃ m, k = m + 2 := ⟨k - 2, by exact ar297 h⟩
  unfold datD kqdOk
  rw [List.all_map, List.all_eq_true]
  intro p _
  show ([Dat.int p.1, Dat.int p.2].all (kqdOk m)) = true
  cases m <;> rfl
section
variable {y : Sy} {n : Nat} {σ : St} {Q : V → St → Prop} {env : Env} {W : Str → Prop} {ρ : Env1} {a : Addr} {c : SC} {S : SS}
theorem O2_eqD {D E : Dom} {Q : V → St → Prop} (h : Q (.val (.bool (decide (D = E)))) σ) : O2 y n σ (compareOp .Eq) (dv D) (dv E) Q :=
  O2_eq (rd_dv y σ D) (rd_dv y σ E) (ok_dv D 9 (by exact ar94)) (ok_dv E 9 (by exact ar94)) fun b hb => by
    have : b = decide (D = E) := by
      rw [datD_inj] at hb
      by_cases e : D = E
      · simp [e, hb.mpr e]
      · cases b with
        | false => simp [e]
        | true => exact absurd (hb.mp rfl) e
    rw [this]; exact h
theorem SA.setTr {σ : St} (A : SA σ a c S) {t : List TE} : SA (σ.put c.tr (.list (t.map TE.v))) a c { S with trail := t } := by
  obtain ⟨n1, n2, n3, n4, n5, n6, n7, n8, n9, n10, n11, n12, n13, n14, n15, n16, n17, n18, n19, n20, n21⟩ := A.ne
  exact ⟨(St.put_ne (Ne.symm n12)).trans A.inst, (St.put_ne n4).trans A.att, (St.put_ne n9).trans A.dm, (St.put_ne (Ne.symm n13)).trans A.fs, St.put_self .., (St.put_ne (Ne.symm n14)).trans A.ms, (St.put_ne (Ne.symm n15)).trans A.nw, A.nodup⟩
theorem SA.setDm {σ : St} (A : SA σ a c S) {t : List Dom} : SA (σ.put c.dm (.list (t.map dv))) a c { S with doms := t } := by
  obtain ⟨n1, n2, n3, n4, n5, n6, n7, n8, n9, n10, n11, n12, n13, n14, n15, n16, n17, n18, n19, n20, n21⟩ := A.ne
  exact ⟨(St.put_ne (Ne.symm n7)).trans A.inst, (St.put_ne n2).trans A.att, St.put_self .., (St.put_ne (Ne.symm n8)).trans A.fs, (St.put_ne (Ne.symm n9)).trans A.tr, (St.put_ne (Ne.symm n10)).trans A.ms, (St.put_ne (Ne.symm n11)).trans A.nw, A.nodup⟩
theorem SA.setFs {σ : St} (A : SA σ a c S) {t : List Dom} : SA (σ.put c.fs (.list (t.map dv))) a c { S with firsts := t } := by
  obtain ⟨n1, n2, n3, n4, n5, n6, n7, n8, n9, n10, n11, n12, n13, n14, n15, n16, n17, n18, n19, n20, n21⟩ := A.ne
  exact ⟨(St.put_ne (Ne.symm n21)).trans A.inst, (St.put_ne n3).trans A.att, (St.put_ne n8).trans A.dm, St.put_self .., (St.put_ne n13).trans A.tr, (St.put_ne n17).trans A.ms, (St.put_ne n20).trans A.nw, A.nodup⟩
theorem SA.setMs {σ : St} (A : SA σ a c S) {t : List Int} : SA (σ.put c.ms (.list (t.map .int))) a c { S with marks := t } := by
  obtain ⟨n1, n2, n3, n4, n5, n6, n7, n8, n9, n10, n11, n12, n13, n14, n15, n16, n17, n18, n19, n20, n21⟩ := A.ne
  exact ⟨(St.put_ne (Ne.symm n16)).trans A.inst, (St.put_ne n5).trans A.att, (St.put_ne n10).trans A.dm, (St.put_ne (Ne.symm n17)).trans A.fs, (St.put_ne n14).trans A.tr, St.put_self .., (St.put_ne (Ne.symm n18)).trans A.nw, A.nodup⟩
theorem SA.setNw {σ : St} (A : SA σ a c S) {t : Nat} : SA (σ.put c.nw (.idict t)) a c { S with news := t } := by
  obtain ⟨n1, n2, n3, n4, n5, n6, n7, n8, n9, n10, n11, n12, n13, n14, n15, n16, n17, n18, n19, n20, n21⟩ := A.ne
  exact ⟨(St.put_ne (Ne.symm n19)).trans A.inst, (St.put_ne n6).trans A.att, (St.put_ne n11).trans A.dm, (St.put_ne (Ne.symm n20)).trans A.fs, (St.put_ne n15).trans A.tr, (St.put_ne n18).trans A.ms, St.put_self .., A.nodup⟩

noncomputable def enterS (S : SS) (l : Lit) (why : Option (List Lit)) : SS × Bool :=
  let x := l.1.toNat
  let old := S.doms.getD x []
  let fresh := struckD l old
  if fresh = [] then ({ S with failed := true, clash := why.getD [] ++ [neg l] }, false)
  else if fresh = old then (S, true)
  else ({ S with doms := S.doms.set x fresh, trail := S.trail ++ [⟨old, l, why⟩], news := S.news + 1 }, true)
theorem s_enter_ok (H : Says y.B) (A : SA σ a c S) {x : Nat} {s : Sg} {k : Int} {why : Option (List Lit)} (hx : x < S.doms.length) (hz : S.doms.length ≤ 1000) (hs : Small S.doms[x]) (hk : -100 ≤ k ∧ k ≤ 100) (ht : S.trail.length ≤ 1000) (hn : S.news ≤ 1000) (hw : (why.getD []).length ≤ 900)
    (h : ∀ σ', SA σ' a c (enterS S (x, s, k) why).1 → Fr a c σ c σ' → Q (.val (.bool (enterS S (x, s, k) why).2)) σ') : CallK y (n + 4) σ (.ref 204) [.val (.ref a), lv ((x : Int), s, k), whyV why, .int (-1)] Q := by
  refine K_fn (F_s_enter H) (by kernel_rfl) rfl fun env he => ?_
  refine XS_cons (X_assign (E_sub (E_var he rfl (E_int ⟨.int x, item0 (j := 0) (by simp) rfl rfl, T_var he ?_⟩))))
  refine XS_cons (X_assign (E_sub (E_sattr H (E_var he rfl ⟨rfl, A, E_var he (u := .int x) rfl ⟨_, item_doms A.dm hz hx, T_var he ?_⟩⟩) rfl)))
  have eo : S.doms.getD x [] = S.doms[x] := by simp [hx]
  unfold enterS at h
  simp only [Int.toNat_natCast, eo] at h
  generalize hO : S.doms[x] = old at *
  refine XS_cons (X_assign (E_fcall he (globFact H (k := 11) (by rfl) (by rfl)) (F_struck H).keeps (E_var he (u := lv ((x : Int), s, k)) rfl (E_var he (u := dv old) rfl (CallK.v (struck_ok H hs hk fun σ₁ l₁ => T_var he ?_))))))
  generalize struckD ((x : Int), s, k) old = fresh at *
  have A₁ := A.le l₁
  refine XS_cons (X_if (B_compare (E_var he (u := dv fresh) rfl (E_tuple ⟨by simp, O2_eqD (E := []) ⟨_, rfl, fun hc => ?_, fun hc => XS_nil ?_⟩⟩))))
  · have hc := of_decide_eq_true hc
    simp only [hc, if_true] at h
    refine XS_cons (X_ret (E_smeth H (E_var he (u := .val (.ref a)) rfl ⟨rfl, A₁, E_binop (E_ifexp (B_compare (E_var he (u := whyV why) rfl (E_none (O2_isNone ⟨_, rfl, fun hw' => ?_, fun hw' => ?_⟩)))))⟩) (F_s_fail H).keeps))
    · have hw0 : why = none := by cases why with | none => rfl | some _ => cases hw'
      subst hw0
      refine E_tuple ⟨by simp, E_tuple (E_fcall he (globFact H (k := 10) (by rfl) (by rfl)) (F_negation H).keeps (E_var he (u := lv ((x : Int), s, k)) rfl (CallK.v (negation_ok H ⟨by simp, O2_addT (by simp) ?_⟩))))⟩
      exact CallK.v (s_fail_ok H A₁ (ls := [neg ((x : Int), s, k)]) (by simp) fun σ' A' fr => h σ' A' ((Fr.le l₁).trans fr))
    · obtain ⟨r, rfl⟩ : ∃ r, why = some r := by cases why with | none => cases hw' | some r => exact ⟨r, rfl⟩
      have hw : r.length ≤ 900 := hw
      refine E_var he (u := .tup (r.map lv)) rfl (E_tuple (E_fcall he (globFact H (k := 10) (by rfl) (by rfl)) (F_negation H).keeps (E_var he (u := lv ((x : Int), s, k)) rfl (CallK.v (negation_ok H ⟨by simp, O2_addT (by simp; exact ar198 hw) ?_⟩)))))
      have e1 : r.map lv ++ [lv (neg ((x : Int), s, k))] = (r ++ [neg ((x : Int), s, k)]).map lv := by simp
      rw [e1]
      exact CallK.v (s_fail_ok H A₁ (ls := r ++ [neg ((x : Int), s, k)]) (by simp; exact ar200 hw) fun σ' A' fr => h σ' A' ((Fr.le l₁).trans fr))
  have hc := of_decide_eq_false hc
  simp only [hc, if_false] at h
  refine XS_cons (X_if (B_compare (E_var he (u := dv fresh) rfl (E_var he (u := dv old) rfl (O2_eqD ⟨_, rfl, fun h2 => ?_, fun h2 => XS_nil ?_⟩)))))
  · have h2 := of_decide_eq_true h2
    simp only [h2, if_true] at h
    exact XS_cons (X_ret (E_bool (h _ A₁ (Fr.le l₁))))
  have h2 := of_decide_eq_false h2
  simp only [h2, if_false] at h
  refine XS_cons (X_expr (E_method ?_))
  refine E_sattr H (u := .val (.ref c.tr)) (E_var he (u := .val (.ref a)) rfl ⟨rfl, A₁, ?_⟩) rfl
  refine ⟨_, _, G_list A₁.tr PySem.F.slot_list_append (ty_md _), keeps_builtin _ _, ?_⟩
  refine E_tuple (E_var he (u := .int x) rfl (E_var he (u := dv old) rfl (E_var he (u := lv ((x : Int), s, k)) rfl (E_var he (u := whyV why) rfl (E_var he (u := .int (-1)) rfl ⟨by simp, ?_⟩)))))
  refine L_append A₁.tr (by simp; exact ar8 ht) ?_
  have e1 : S.trail.map TE.v ++ [.tup [.int x, dv old, lv ((x : Int), s, k), whyV why, .int (-1)]] = (S.trail ++ [TE.mk old ((x : Int), s, k) why]).map TE.v := by simp [TE.v]
  rw [e1]
  have A₂ := A₁.setTr (t := S.trail ++ [TE.mk old ((x : Int), s, k) why])
  refine XS_cons (X_assign (E_var he (u := dv fresh) rfl (T_sub (E_sattr H (u := .val (.ref c.dm)) (E_var he (u := .val (.ref a)) rfl ⟨rfl, A₂, ?_⟩) rfl))))
  refine E_var he (u := .int x) rfl ⟨c.dm, _, x, x, rfl, rfl, A₂.dm, by simp; exact ar8 hz, by rw [seqIndex_pos (by exact ar9) (by simp; assumption)]; simp, ?_⟩
  have e2 : (S.doms.map dv).set x (dv fresh) = (S.doms.set x fresh).map dv := by rw [List.map_set]
  dsimp only at e2 ⊢
  rw [e2]
  have A₃ := A₂.setDm (t := S.doms.set x fresh)
  refine XS_cons (X_assign (E_bool (T_idict (E_sattr H (u := .val (.ref c.nw)) (E_var he (u := .val (.ref a)) rfl ⟨rfl, A₃, ?_⟩) rfl))))
  refine E_var he (u := .int x) rfl ⟨c.nw, x, _, rfl, rfl, A₃.nw, ?_, ?_⟩
  · show S.news ≤ 1000000; exact ar8 hn
  have A₄ := A₃.setNw (t := S.news + 1)
  refine XS_cons (X_ret (E_bool (h _ A₄ ?_)))
  exact (Fr.le l₁).trans ((Fr.put (by simp [own])).trans ((Fr.put (by simp [own])).trans (Fr.put (by simp [own]))))
theorem s_strike_ok (H : Says y.B) (A : SA σ a c S) {x : Nat} {s : Sg} {k : Int} {r : List Lit} (hx : x < S.doms.length) (hz : S.doms.length ≤ 1000) (hs : Small S.doms[x]) (hk : -100 ≤ k ∧ k ≤ 100) (ht : S.trail.length ≤ 1000) (hn : S.news ≤ 1000) (hw : r.length ≤ 900)
    (h : ∀ σ', SA σ' a c (enterS S (x, s, k) (some r)).1 → Fr a c σ c σ' → Q (.val (.bool (enterS S (x, s, k) (some r)).2)) σ') : CallK y (n + 5) σ (.ref 211) [.val (.ref a), lv ((x : Int), s, k), .tup (r.map lv)] Q := by
  refine K_fn (F_s_strike H) (by kernel_rfl) rfl fun env he => ?_
  refine XS_cons (X_ret (E_smeth H (E_var he (u := .val (.ref a)) rfl ⟨rfl, A, E_var he (u := lv ((x : Int), s, k)) rfl (E_fcall he (bltFact H (k := 4) (by rfl) (by rfl)) (keeps_type _ _) (E_var he (u := .tup (r.map lv)) rfl (C_tuple_tup ?_)))⟩) (F_s_enter H).keeps))
  refine E_sattr H (u := .int (-1)) (E_var he (u := .val (.ref a)) rfl ⟨rfl, A, ?_⟩) rfl
  exact CallK.v (s_enter_ok H A (why := some r) hx hz hs hk ht hn hw h)
theorem s_decide_ok (H : Says y.B) (A : SA σ a c S) {x : Nat} {s : Sg} {k : Int} (hx : x < S.doms.length) (hz : S.doms.length ≤ 1000) (hs : Small S.doms[x]) (hk : -100 ≤ k ∧ k ≤ 100) (ht : S.trail.length ≤ 1000) (hn : S.news ≤ 1000)
    (h : ∀ σ', SA σ' a c (enterS S (x, s, k) none).1 → Fr a c σ c σ' → Q (.val (.bool (enterS S (x, s, k) none).2)) σ') : CallK y (n + 5) σ (.ref 218) [.val (.ref a), lv ((x : Int), s, k)] Q := by
  refine K_fn (F_s_decide H) (by kernel_rfl) rfl fun env he => ?_
  refine XS_cons (X_ret (E_smeth H (E_var he (u := .val (.ref a)) rfl ⟨rfl, A, E_var he (u := lv ((x : Int), s, k)) rfl (E_none (E_unary (E_int (O1_neg ?_))))⟩) (F_s_enter H).keeps))
  exact CallK.v (s_enter_ok H A (why := none) hx hz hs hk ht hn (by simp) h)
end
end Mine
end
section
open PySem PySem.W PySem.Calls PyProof.Rows
set_option maxRecDepth 100000
set_option linter.unusedVariables false
namespace Mine
theorem pick_eq {α : Type} (l : List α) (lo hi : Option Int) : pick l lo hi = (l.drop (lo.elim 0 (clipAt l.length))).take (hi.elim l.length (clipAt l.length) - lo.elim 0 (clipAt l.length)) := by
  unfold pick
  rw [sliceBounds_plain]
  dsimp only
  rw [sliceRange_one]
  have := pick_run l.toArray (lo.elim 0 (clipAt l.length)) (hi.elim l.length (clipAt l.length) - lo.elim 0 (clipAt l.length))
  simpa using this
theorem pick_from {α : Type} (l : List α) (k : Nat) : pick l (some k) none = l.drop k := by
  rw [pick_eq]
  have : clipAt l.length (k : Int) = min k l.length := by
    unfold clipAt
    have h0 : ¬ (k : Int) < 0 := by exact ar216
    simp only [h0, if_false]
    exact ar217
  simp only [Option.elim]
  rw [this]
  by_cases h : k ≤ l.length
  · rw [Nat.min_eq_left h, List.take_of_length_le (by simp)]
  · rw [Nat.min_eq_right (by exact ar298 h), List.drop_of_length_le (by exact Nat.le_refl _), List.drop_of_length_le (by exact ar298 h), List.take_nil]
theorem pick_upto {α : Type} (l : List α) (k : Nat) : pick l none (some k) = l.take k := by
  rw [pick_eq]
  have : clipAt l.length (k : Int) = min k l.length := by
    unfold clipAt
    have h0 : ¬ (k : Int) < 0 := by exact ar216
    simp only [h0, if_false]
    exact ar217
  simp only [Option.elim]
  rw [this]
  simp
section
variable {y : Sy} {n : Nat} {σ : St} {Q : V → St → Prop} {env : Env} {W : Str → Prop} {ρ : Env1} {a : Addr} {c : SC} {S : SS}
theorem s_push_ok (H : Says y.B) (A : SA σ a c S) (ht : S.trail.length ≤ 1000) (hm : S.marks.length ≤ 1000)
    (h : ∀ σ', SA σ' a c { S with marks := S.marks ++ [(S.trail.length : Int)] } → Fr a c σ c σ' → Q (.val .none) σ') : CallK y (n + 1) σ (.ref 232) [.val (.ref a)] Q := by
  refine K_fn (F_s_push H) (by kernel_rfl) rfl fun env he => ?_
  refine XS_cons (X_expr (E_method ?_))
  refine E_sattr H (u := .val (.ref c.ms)) (E_var he (u := .val (.ref a)) rfl ⟨rfl, A, ?_⟩) rfl
  refine ⟨_, _, G_list A.ms PySem.F.slot_list_append (ty_md _), keeps_builtin _ _, ?_⟩
  refine E_fcall he (bltFact H (k := 5) (by rfl) (by rfl)) (keeps_builtin _ _) ?_
  refine E_sattr H (u := .val (.ref c.tr)) (E_var he (u := .val (.ref a)) rfl ⟨rfl, A, ?_⟩) rfl
  refine C_len_list (.of A.tr) (by simp; exact ar8 ht) ?_
  refine L_append A.ms (by simp; exact ar8 hm) ?_
  have e1 : S.marks.map V.int ++ [.int ((S.trail.map TE.v).length : Int)] = (S.marks ++ [(S.trail.length : Int)]).map .int := by simp
  rw [e1]
  exact XS_nil (h _ A.setMs (Fr.put (by simp [own])))
theorem Fr.new {σ σ' : St} {c' : SC} (h : ∀ b, b ∈ own a c' → b ∈ own a c ∨ σ b = none) (k : ∀ b x, b ∉ own a c → σ b = some x → σ' b = some x) : Fr a c σ c' σ' := fun b x n e => ⟨k b x n e, fun q => by
  rcases h b q with q | q
  · exact n q
  · rw [q] at e; cases e⟩
theorem own_fresh {σ : St} (A : SA σ a c S) {b : Addr} (hb : σ b = none) : b ∉ own a c := fun q => by
  have : σ b ≠ none := by
    simp only [own, List.mem_cons, List.not_mem_nil, or_false] at q
    rcases q with rfl | rfl | rfl | rfl | rfl | rfl | rfl
    · rw [A.inst]; simp
    · rw [A.att]; simp
    · rw [A.dm]; simp
    · rw [A.fs]; simp
    · rw [A.tr]; simp
    · rw [A.ms]; simp
    · rw [A.nw]; simp
  exact this hb
theorem SA.newMs {σ : St} (A : SA σ a c S) {b : Addr} (hb : σ b = none) {t : List Int} : SA ((σ.put b (.list (t.map .int))).put c.d (.attrs (bump 8 (sattr c S) "marks") fun x => if x = "marks" then some (.val (.ref b)) else sattr c S x)) a { c with ms := b } { S with marks := t } := by
  obtain ⟨n1, n2, n3, n4, n5, n6, n7, n8, n9, n10, n11, n12, n13, n14, n15, n16, n17, n18, n19, n20, n21⟩ := A.ne
  have nb := own_fresh A hb
  simp only [own, List.mem_cons, List.not_mem_nil, or_false, not_or] at nb
  obtain ⟨b1, b2, b3, b4, b5, b6, b7⟩ := nb
  have ef : (fun x : Str => if x = "marks" then some (V.val (.ref b)) else sattr c S x) = sattr { c with ms := b } { S with marks := t } := by
    funext x
    by_cases hx : x = "marks"
    · subst hx; rfl
    · simp only [hx, if_false, sattr]
  have eb : bump 8 (sattr c S) "marks" = 8 := rfl
  rw [ef, eb]
  refine ⟨?_, St.put_self .., ?_, ?_, ?_, ?_, ?_, ?_⟩
  · rw [St.put_ne (Ne.symm n1), St.put_ne (Ne.symm b1)]; exact A.inst
  · rw [St.put_ne (Ne.symm n2), St.put_ne (Ne.symm b3)]; exact A.dm
  · rw [St.put_ne (Ne.symm n3), St.put_ne (Ne.symm b4)]; exact A.fs
  · rw [St.put_ne (Ne.symm n4), St.put_ne (Ne.symm b5)]; exact A.tr
  · rw [St.put_ne b2, St.put_self]
  · rw [St.put_ne (Ne.symm n6), St.put_ne (Ne.symm b7)]; exact A.nw
  · simp only [own, List.nodup_cons, List.mem_cons, List.not_mem_nil, not_or, or_false, not_false_eq_true, and_true, List.nodup_nil]
    exact ⟨⟨Ne.symm n1, Ne.symm n7, Ne.symm n21, Ne.symm n12, Ne.symm b1, Ne.symm n19⟩, ⟨n2, n3, n4, Ne.symm b2, n6⟩, ⟨n8, n9, Ne.symm b3, n11⟩, ⟨Ne.symm n13, Ne.symm b4, Ne.symm n20⟩, ⟨Ne.symm b5, n15⟩, b7⟩
theorem SA.newNw {σ : St} (A : SA σ a c S) {b : Addr} (hb : σ b = none) : SA ((σ.put b (.idict 0)).put c.d (.attrs (bump 8 (sattr c S) "news") fun x => if x = "news" then some (.val (.ref b)) else sattr c S x)) a { c with nw := b } { S with news := 0 } := by
  obtain ⟨n1, n2, n3, n4, n5, n6, n7, n8, n9, n10, n11, n12, n13, n14, n15, n16, n17, n18, n19, n20, n21⟩ := A.ne
  have nb := own_fresh A hb
  simp only [own, List.mem_cons, List.not_mem_nil, or_false, not_or] at nb
  obtain ⟨b1, b2, b3, b4, b5, b6, b7⟩ := nb
  have ef : (fun x : Str => if x = "news" then some (V.val (.ref b)) else sattr c S x) = sattr { c with nw := b } { S with news := 0 } := by
    funext x
    by_cases hx : x = "news"
    · subst hx; rfl
    · simp only [hx, if_false, sattr]
  have eb : bump 8 (sattr c S) "news" = 8 := rfl
  rw [ef, eb]
  refine ⟨?_, St.put_self .., ?_, ?_, ?_, ?_, ?_, ?_⟩
  · rw [St.put_ne (Ne.symm n1), St.put_ne (Ne.symm b1)]; exact A.inst
  · rw [St.put_ne (Ne.symm n2), St.put_ne (Ne.symm b3)]; exact A.dm
  · rw [St.put_ne (Ne.symm n3), St.put_ne (Ne.symm b4)]; exact A.fs
  · rw [St.put_ne (Ne.symm n4), St.put_ne (Ne.symm b5)]; exact A.tr
  · rw [St.put_ne (Ne.symm n5), St.put_ne (Ne.symm b6)]; exact A.ms
  · rw [St.put_ne b2, St.put_self]
  · simp only [own, List.nodup_cons, List.mem_cons, List.not_mem_nil, not_or, or_false, not_false_eq_true, and_true, List.nodup_nil]
    exact ⟨⟨Ne.symm n1, Ne.symm n7, Ne.symm n21, Ne.symm n12, Ne.symm n16, Ne.symm b1⟩, ⟨n2, n3, n4, n5, Ne.symm b2⟩, ⟨n8, n9, n10, Ne.symm b3⟩, ⟨Ne.symm n13, Ne.symm n17, Ne.symm b4⟩, ⟨n14, Ne.symm b5⟩, Ne.symm b6⟩
theorem Fr.newD {σ : St} (A : SA σ a c S) {b : Addr} (hb : σ b = none) {c' : SC} (hc : ∀ z, z ∈ own a c' → z ∈ own a c ∨ z = b) {x z : AO} : Fr a c σ c' ((σ.put b x).put c.d z) :=
  Fr.new (fun q hq => by rcases hc q hq with h | h; exact .inl h; exact .inr (h ▸ hb)) fun q o n e => by
    rw [St.put_ne (by rintro rfl; exact n (by simp [own])), St.put_ne (by rintro rfl; rw [hb] at e; cases e)]; exact e
noncomputable def undo (doms : List Dom) (l : List TE) : List Dom := l.foldr (fun t d => d.set t.lit.1.toNat t.old) doms
theorem undo_len (doms : List Dom) (l : List TE) : (undo doms l).length = doms.length := by
  induction l with
  | nil => rfl
  | cons e l ih => show ((undo doms l).set _ _).length = _; rw [List.length_set]; exact ih
theorem s_pop_ok (H : Says y.B) (A : SA σ a c S) {ms : List Int} {t u : List TE} (hm : S.marks = ms ++ [(t.length : Int)]) (htu : S.trail = t ++ u) (hz : S.doms.length ≤ 1000) (hf : S.firsts.length ≤ 1000) (ht : S.trail.length ≤ 1000) (hml : S.marks.length ≤ 1000)
    (hu : ∀ e ∈ u, 0 ≤ e.lit.1 ∧ e.lit.1 < S.doms.length)
    (h : ∀ c' σ', SA σ' a c' ⟨undo S.doms u, S.firsts, t, ms, decide ([] ∈ S.firsts), [], 0⟩ → Fr a c σ c' σ' → Q (.val .none) σ') : CallK y (n + 1) σ (.ref 239) [.val (.ref a), .int 1] Q := by
  refine K_fn (F_s_pop H) (by kernel_rfl) rfl fun env he => ?_
  have lm : S.marks.length = ms.length + 1 := by rw [hm]; simp
  refine XS_cons (X_if (B_compare (E_var he (u := .int 1) rfl (E_int (O2_lt ⟨_, rfl, fun hc => absurd hc (by decide), fun _ => XS_nil ?_⟩)))))
  refine XS_cons (X_assign (E_sub ?_))
  refine E_sattr H (u := .val (.ref c.ms)) (E_var he (u := .val (.ref a)) rfl ⟨rfl, A, ?_⟩) rfl
  refine E_binop (E_fcall he (bltFact H (k := 5) (by rfl) (by rfl)) (keeps_builtin _ _) ?_)
  refine E_sattr H (u := .val (.ref c.ms)) (E_var he (u := .val (.ref a)) rfl ⟨rfl, A, ?_⟩) rfl
  refine C_len_list (.of A.ms) (by simp; exact ar8 hml) (E_var he (u := .int 1) rfl (O2_sub ⟨.int t.length, ⟨_, ms.length, .of A.ms, by simp; exact ar8 hml, ?_, ?_⟩, T_var he ?_⟩))
  · rw [seqIndex_pos (by simp; exact ar299 lm) (by simp; exact ar300)]; simp; exact ar301 lm
  · rw [hm]; simp
  refine XS_cons (X_assign (E_slice ?_))
  refine E_sattr H (u := .val (.ref c.ms)) (E_var he (u := .val (.ref a)) rfl ⟨rfl, A, ?_⟩) rfl
  refine E_binop (E_fcall he (bltFact H (k := 5) (by rfl) (by rfl)) (keeps_builtin _ _) ?_)
  refine E_sattr H (u := .val (.ref c.ms)) (E_var he (u := .val (.ref a)) rfl ⟨rfl, A, ?_⟩) rfl
  refine C_len_list (.of A.ms) (by simp; exact ar8 hml) (E_var he (u := .int 1) rfl (O2_sub ⟨_, rfl, _, _, rfl, .of A.ms, by simp; exact ar8 hml, fun b hb => ?_⟩))
  have ep : pick (S.marks.map V.int) none (some (((S.marks.map V.int).length : Int) - 1)) = ms.map .int := by
    rw [show (((S.marks.map V.int).length : Int) - 1) = (ms.length : Int) from by simp; exact ar302 lm, pick_upto, hm]
    simp
  rw [ep]
  have A₀ : SA (σ.put b (.list (ms.map .int))) a c S := A.le (St.Le.put hb)
  refine T_sattr H (E_var he (u := .val (.ref a)) rfl ⟨rfl, A₀, ?_⟩)
  have A₁ := A.newMs hb (t := ms)
  have fr₁ : Fr a c σ { c with ms := b } ((σ.put b (.list (ms.map .int))).put c.d (.attrs (bump 8 (sattr c S) "marks") fun x => if x = "marks" then some (.val (.ref b)) else sattr c S x)) :=
    Fr.newD A hb fun z hz => by
      simp only [own, List.mem_cons, List.not_mem_nil, or_false] at hz ⊢
      rcases hz with h | h | h | h | h | h | h <;> simp [h]
  generalize hσ₁ : ((σ.put b (.list (ms.map .int))).put c.d (.attrs (bump 8 (sattr c S) "marks") fun x => if x = "marks" then some (.val (.ref b)) else sattr c S x)) = σ₁ at *
  generalize hc₁ : ({ c with ms := b } : SC) = c₁ at *
  refine XS_cons (X_while (fun m ρ σ' => ∃ u' u'', u = u' ++ u'' ∧ SA σ' a c₁ { S with marks := ms, trail := t ++ u', doms := undo S.doms u'' } ∧ Fr a c σ c₁ σ' ∧ ρ "self" = some (.val (.ref a)) ∧ ρ "mark" = some (.int t.length) ∧ m = u'.length) ?_ u.length
    ⟨u, [], by simp, by rw [← htu]; exact A₁, fr₁, rfl, rfl, rfl⟩)
  rintro m ρ σ' ⟨u', u'', hu', A', fr, eself, emark, rfl⟩
  have lt : (t ++ u').length ≤ 1000 := by rw [htu, hu'] at ht; simp at ht ⊢; exact ar303 ht
  refine B_compare (E_fcall he (bltFact H (k := 5) (by rfl) (by rfl)) (keeps_builtin _ _) ?_)
  refine E_sattr H (u := .val (.ref c₁.tr)) (E_var he (u := .val (.ref a)) (by exact eself) ⟨rfl, A', ?_⟩) rfl
  refine C_len_list (.of A'.tr) (by simp at lt ⊢; exact ar304 lt) (E_var he (u := .int t.length) (by exact emark) (O2_gt ⟨_, rfl, fun hc => ?_, fun hc => ?_⟩))
  · have hne : u' ≠ [] := by rintro rfl; simp at hc
    obtain ⟨v, e, rfl⟩ : ∃ v e, u' = v ++ [e] := ⟨u'.dropLast, u'.getLast hne, (List.dropLast_concat_getLast hne).symm⟩
    refine XS_cons (X_assign (E_method ?_))
    refine E_sattr H (u := .val (.ref c₁.tr)) (E_var he (u := .val (.ref a)) (by exact eself) ⟨rfl, A', ?_⟩) rfl
    refine ⟨_, _, G_list A'.tr PySem.F.slot_list_pop (ty_md _), keeps_builtin _ _, ?_⟩
    have etr := A'.tr
    rw [show ((t ++ (v ++ [e])).map TE.v) = (t ++ v).map TE.v ++ [e.v] from by simp] at etr
    refine L_pop etr (by simp at lt ⊢; exact ar305 lt) (T_var he ?_)
    intro ρ
    have A₂ := A'.setTr (t := t ++ v)
    obtain ⟨x0, x1⟩ := hu e (by rw [hu']; simp)
    obtain ⟨x, hx⟩ := Int.eq_ofNat_of_zero_le x0
    have hl : (undo S.doms u'').length = S.doms.length := undo_len ..
    have ev : e.v = .tup [.int x, dv e.old, lv e.lit, whyV e.why, .int (-1)] := by unfold TE.v; rw [hx]
    refine XS_cons (X_assign (E_sub (E_var he (u := e.v) rfl (E_int ⟨dv e.old, by rw [ev]; exact item0 (j := 1) (by simp) rfl rfl, ?_⟩))))
    refine T_sub (E_sattr H (u := .val (.ref c₁.dm)) (E_var he (u := .val (.ref a)) (by exact eself) ⟨rfl, A₂, ?_⟩) rfl)
    refine E_sub (E_var he (u := e.v) rfl (E_int ⟨.int x, by rw [ev]; exact item0 (j := 0) (by simp) rfl rfl, ⟨c₁.dm, _, x, x, rfl, rfl, A₂.dm, by simp [hl]; exact ar8 hz, by rw [seqIndex_pos (by exact ar9) (by simp [hl] <;> exact ar306 x1 hx)]; simp, ?_⟩⟩))
    have e2 : ((undo S.doms u'').map dv).set x (dv e.old) = (undo S.doms (e :: u'')).map dv := by
      show _ = ((undo S.doms u'').set e.lit.1.toNat e.old).map dv
      rw [hx, List.map_set]; rfl
    dsimp only at e2 ⊢
    rw [e2]
    refine XS_nil ⟨v.length, by simp, v, e :: u'', by rw [hu']; simp, A₂.setDm, fr.trans ((Fr.put (by simp [own])).trans (Fr.put (by simp [own]))), by exact eself, by exact emark, rfl⟩
  · have : u' = [] := by
      cases u' with
      | nil => rfl
      | cons e u' => simp at hc; exact ar307 hc
    subst this
    rw [List.nil_append] at hu'
    subst hu'
    rw [List.append_nil] at A'
    refine XS_cons (X_assign (E_dict0 fun b₂ hb₂ => ?_))
    have A₀ : SA (σ'.put b₂ (.idict 0)) a c₁ _ := A'.le (St.Le.put hb₂)
    refine T_sattr H (E_var he (u := .val (.ref a)) (by exact eself) ⟨rfl, A₀, ?_⟩)
    have A₂ := A'.newNw hb₂
    have fr₂ : Fr a c₁ σ' { c₁ with nw := b₂ } ((σ'.put b₂ (.idict 0)).put c₁.d (.attrs (bump 8 (sattr c₁ { S with marks := ms, trail := t, doms := undo S.doms u }) "news") fun x => if x = "news" then some (.val (.ref b₂)) else sattr c₁ { S with marks := ms, trail := t, doms := undo S.doms u } x)) :=
      Fr.newD A' hb₂ fun z hz => by
        simp only [own, List.mem_cons, List.not_mem_nil, or_false] at hz ⊢
        rcases hz with h | h | h | h | h | h | h <;> simp [h]
    generalize ((σ'.put b₂ (.idict 0)).put c₁.d (.attrs (bump 8 (sattr c₁ { S with marks := ms, trail := t, doms := undo S.doms u }) "news") fun x => if x = "news" then some (.val (.ref b₂)) else sattr c₁ { S with marks := ms, trail := t, doms := undo S.doms u } x)) = σ₂ at *
    generalize ({ c₁ with nw := b₂ } : SC) = c₂ at *
    refine XS_cons (X_assign (E_compare (E_tuple ⟨by simp, ?_⟩)))
    refine E_sattr H (u := .val (.ref c₂.fs)) (E_var he (u := .val (.ref a)) (by exact eself) ⟨rfl, A₂, ?_⟩) rfl
    refine O2_in (ds := S.firsts.map datD) (d := datD []) (.of A₂.fs) ?_ (rd_dv y σ₂ []) (fun e he => ?_) (ok_dv [] 8 (by exact ar215)) fun bb hbb => ?_
    · have : ∀ L : List Dom, RdL y σ₂ (L.map dv) (L.map datD) := by
        intro L
        induction L with
        | nil => exact .nil
        | cons D L ih => exact .cons (rd_dv y σ₂ D) ih
      exact this S.firsts
    · obtain ⟨D, _, rfl⟩ := List.mem_map.mp he
      exact ok_dv D 8 (by exact ar215)
    have ebb : bb = decide ([] ∈ S.firsts) := by
      have : (datD [] ∈ S.firsts.map datD) ↔ [] ∈ S.firsts := by
        rw [List.mem_map]
        constructor
        · rintro ⟨D, hD, e⟩
          rw [← datD_inj.mp e]; exact hD
        · intro h; exact ⟨[], h, rfl⟩
      rw [this] at hbb
      by_cases e : [] ∈ S.firsts
      · simp [e, hbb.mpr e]
      · cases bb with
        | false => simp [e]
        | true => exact absurd (hbb.mp rfl) e
    subst ebb
    refine T_sattr H (E_var he (u := .val (.ref a)) (by exact eself) ⟨rfl, A₂, ?_⟩)
    have A₃ : SA _ a c₂ ⟨undo S.doms u, S.firsts, t, ms, decide ([] ∈ S.firsts), S.clash, 0⟩ := A₂.setA (name := "is_failed") (u := .val (.bool (decide ([] ∈ S.firsts)))) (by rfl) (by
      funext x
      by_cases hx : x = "is_failed"
      · subst hx; rfl
      · simp only [hx, if_false, sattr]) rfl rfl rfl rfl rfl
    refine XS_cons (X_assign (E_tuple ⟨by simp, T_sattr H (E_var he (u := .val (.ref a)) (by exact eself) ⟨rfl, A₃, ?_⟩)⟩))
    have A₄ : SA _ a c₂ ⟨undo S.doms u, S.firsts, t, ms, decide ([] ∈ S.firsts), [], 0⟩ := A₃.setA (name := "clash") (u := .tup []) (by rfl) (by
      funext x
      by_cases hx : x = "clash"
      · subst hx; rfl
      · simp only [hx, if_false, sattr]) rfl rfl rfl rfl rfl
    exact XS_nil (h c₂ _ A₄ (((fr.trans fr₂).trans (Fr.put (by simp [own]))).trans (Fr.put (by simp [own]))))
end
end Mine
end
section
open PySem PySem.W PySem.Calls PyProof.Rows
set_option maxRecDepth 100000
set_option linter.unusedVariables false
namespace Mine
section
variable {y : Sy} {n : Nat} {σ : St} {Q : V → St → Prop} {env : Env} {W : Str → Prop} {ρ : Env1} {a : Addr} {c : SC} {S : SS}
theorem s_new_var_ok (H : Says y.B) (A : SA σ a c S) {D : Dom} (hD : D ≠ []) (hz : S.doms.length ≤ 900) (hf : S.firsts.length ≤ 900)
    (h : ∀ σ', SA σ' a c { S with doms := S.doms ++ [D], firsts := S.firsts ++ [D] } → Fr a c σ c σ' → Q (.int S.doms.length) σ') : CallK y (n + 1) σ (.ref 127) [.val (.ref a), dv D] Q := by
  refine K_fn (F_s_new_var H) (by kernel_rfl) rfl fun env he => ?_
  refine XS_cons (X_expr (E_method ?_))
  refine E_sattr H (u := .val (.ref c.dm)) (E_var he (u := .val (.ref a)) rfl ⟨rfl, A, ?_⟩) rfl
  refine ⟨_, _, G_list A.dm PySem.F.slot_list_append (ty_md _), keeps_builtin _ _, E_var he (u := dv D) rfl (L_append A.dm (by simp; exact ar197 hz) ?_)⟩
  rw [show S.doms.map dv ++ [dv D] = (S.doms ++ [D]).map dv from by simp]
  have A₁ := A.setDm (t := S.doms ++ [D])
  refine XS_cons (X_expr (E_method ?_))
  refine E_sattr H (u := .val (.ref c.fs)) (E_var he (u := .val (.ref a)) rfl ⟨rfl, A₁, ?_⟩) rfl
  refine ⟨_, _, G_list A₁.fs PySem.F.slot_list_append (ty_md _), keeps_builtin _ _, E_var he (u := dv D) rfl (L_append A₁.fs (by simp; exact ar197 hf) ?_)⟩
  dsimp only
  rw [show S.firsts.map dv ++ [dv D] = (S.firsts ++ [D]).map dv from by simp]
  have A₂ := A₁.setFs (t := S.firsts ++ [D])
  refine XS_cons (X_if (B_compare (E_var he (u := dv D) rfl (E_tuple ⟨by simp, O2_eqD (E := []) ⟨_, rfl, fun hc => absurd (of_decide_eq_true hc) hD, fun hc => XS_nil ?_⟩⟩))))
  refine XS_cons (X_ret (E_binop (E_fcall he (bltFact H (k := 5) (by rfl) (by rfl)) (keeps_builtin _ _) ?_)))
  refine E_sattr H (u := .val (.ref c.dm)) (E_var he (u := .val (.ref a)) rfl ⟨rfl, A₂, ?_⟩) rfl
  refine C_len_list (.of A₂.dm) (by simp; exact ar308 hz) (E_int (O2_sub ?_))
  have e1 : (((S.doms ++ [D]).map dv).length : Int) - 1 = S.doms.length := by simp
  dsimp only
  rw [e1]
  exact h _ A₂ ((Fr.put (by simp [own])).trans (Fr.put (by simp [own])))
noncomputable def S0 : SS := ⟨[], [], [], [], false, [], 0⟩
theorem put_comm {σ : St} {a b : Addr} {x z : AO} (h : a ≠ b) : (σ.put a x).put b z = (σ.put b z).put a x := by
  funext q
  unfold St.put
  by_cases h1 : q = b
  · subst h1; simp [Ne.symm h]
  · simp [h1]
structure Bd (σ : St) (C a d : Addr) (k : Nat) (f : Str → Option V) : Prop where
  inst : σ a = some (.inst C d)
  att : σ d = some (.attrs k f)
  ne : a ≠ d
theorem Bd.fresh {σ : St} {C a d b : Addr} {k : Nat} {f : Str → Option V} {x : AO} (B : Bd σ C a d k f) (hb : σ b = none) : Bd (σ.put b x) C a d k f :=
  ⟨by rw [St.put_ne (by rintro rfl; rw [B.inst] at hb; cases hb)]; exact B.inst, by rw [St.put_ne (by rintro rfl; rw [B.att] at hb; cases hb)]; exact B.att, B.ne⟩
theorem Bd.set {σ : St} {C a d : Addr} {k k' : Nat} {f f' : Str → Option V} (B : Bd σ C a d k f) : Bd (σ.put d (.attrs k' f')) C a d k' f' :=
  ⟨by rw [St.put_ne B.ne]; exact B.inst, St.put_self .., B.ne⟩
theorem T_bd {K : Frag} {C d : Addr} {k : Nat} {f : Str → Option V} {o : Expr} {name : Str} {pos : Pos} {u : V} {R : Env1 → St → Prop} (X : K.In y.B) (hc : ClsF K C) (B : Bd σ C a d k f) (hf : findIn K (.ref C) name = some none) (hk : k ≤ 1000)
    (h : EV y n env ρ σ o fun x σ' => x = .val (.ref a) ∧ σ' = σ ∧ R ρ (σ.put d (.attrs (bump k f name) fun x => if x = name then some u else f x))) : AT y n env W (.Attribute o name pos) u ρ σ R :=
  T_attr X hc (h.mono fun x σ' ⟨e, e', q⟩ => ⟨a, d, k, f, e, by rw [e']; exact B.inst, by rw [e']; exact B.att, hk, by rw [e']; exact q⟩) hf
theorem X_bdV {K : Frag} {C d : Addr} {k : Nat} {f : Str → Option V} {name : Str} {p1 p2 p3 : Pos} {e : Expr} {u : V} {Sc : Scope} {R : Fl → Env1 → St → Prop} (X : K.In y.B) (hc : ClsF K C) (B : Bd σ C a d k f) (he : env.scope = Sc) (hs : ρ "self" = some (.val (.ref a))) (hf : findIn K (.ref C) name = some none) (hk : k ≤ 1000) (hn : f name = none)
    (hv : ∀ Q : V → St → Prop, Q u σ → EV y n env ρ σ e Q)
    (h : ∀ σ' f', Bd σ' C a d (k + 1) f' → (∀ x, f' x = if x = name then some u else f x) → (∀ q z, σ q = some z → q ≠ d → σ' q = some z) → R .next ρ σ')
    (h1 : swapsWith e (some (.Attribute (.Name "self" p1) name p2)) p3.line env = pure false := by rfl) (h2 : swappedStores [.Attribute (.Name "self" p1) name p2] e env = pure none := by rfl) (hkd : (Sc.names.lookup ("self" : Str) == some .local || Sc.names.lookup ("self" : Str) == some .cell || Sc.names.lookup ("self" : Str) == some .free) = true := by rfl) :
    EX y n env W (.Assign [.Attribute (.Name "self" p1) name p2] e p3) ρ σ R := by
  refine X_assign (hv _ (T_bd X hc B hf hk (E_var he hs ⟨rfl, rfl, ?_⟩ hkd))) h1 h2
  have eb : bump k f name = k + 1 := by unfold bump; rw [hn]; rfl
  rw [eb]
  exact h _ _ B.set (fun x => rfl) fun q z e n => by rw [St.put_ne n]; exact e
theorem X_bdL {K : Frag} {C d : Addr} {k : Nat} {f : Str → Option V} {name : Str} {p1 p2 p3 : Pos} {e : Expr} {o : AO} {Sc : Scope} {R : Fl → Env1 → St → Prop} (X : K.In y.B) (hc : ClsF K C) (B : Bd σ C a d k f) (he : env.scope = Sc) (hs : ρ "self" = some (.val (.ref a))) (hf : findIn K (.ref C) name = some none) (hk : k ≤ 1000) (hn : f name = none)
    (hv : ∀ Q : V → St → Prop, (∀ b, σ b = none → Q (.val (.ref b)) (σ.put b o)) → EV y n env ρ σ e Q)
    (h : ∀ b σ' f', σ b = none → Bd σ' C a d (k + 1) f' → (∀ x, f' x = if x = name then some (.val (.ref b)) else f x) → σ' b = some o → b ≠ d → (∀ q z, σ q = some z → q ≠ d → σ' q = some z ∧ q ≠ b) → R .next ρ σ')
    (h1 : swapsWith e (some (.Attribute (.Name "self" p1) name p2)) p3.line env = pure false := by rfl) (h2 : swappedStores [.Attribute (.Name "self" p1) name p2] e env = pure none := by rfl) (hkd : (Sc.names.lookup ("self" : Str) == some .local || Sc.names.lookup ("self" : Str) == some .cell || Sc.names.lookup ("self" : Str) == some .free) = true := by rfl) :
    EX y n env W (.Assign [.Attribute (.Name "self" p1) name p2] e p3) ρ σ R := by
  refine X_assign (hv _ fun b hb => T_bd X hc (B.fresh hb) hf hk (E_var he hs ⟨rfl, rfl, ?_⟩ hkd)) h1 h2
  have eb : bump k f name = k + 1 := by unfold bump; rw [hn]; rfl
  have nd : b ≠ d := by rintro rfl; rw [B.att] at hb; cases hb
  rw [eb]
  exact h b _ _ hb (B.fresh hb).set (fun x => rfl) (by rw [St.put_ne nd, St.put_self]) nd fun q z e n => by
    have nb : q ≠ b := by rintro rfl; rw [hb] at e; cases e
    exact ⟨by rw [St.put_ne n, St.put_ne nb]; exact e, nb⟩
theorem store_new (H : Says y.B) (h : ∀ a c σ', SA σ' a c S0 → (∀ b ∈ own a c, σ b = none) → σ.Le σ' → Q (.val (.ref a)) σ') : CallV y (n + 2) σ (.ref 256) [] Q := by
  obtain ⟨K, X, hc, hm, hk, ha, hms⟩ := clsS H
  obtain ⟨m1, m2⟩ := hms ("__init__", 120) (by decide)
  refine C_make X hm m1 m2 fun a d fa fd nad => ?_
  refine K_fn (F_s_init H) (by kernel_rfl) rfl fun env he => ?_
  have B₀ : Bd ((σ.put d (.attrs 0 fun _ => none)).put a (.inst 256 d)) 256 a d 0 (fun _ => none) := ⟨St.put_self .., (St.put_ne (Ne.symm nad)).trans (St.put_self ..), nad⟩
  have L₀ : ∀ q z, σ q = some z → ((σ.put d (.attrs 0 fun _ => none)).put a (.inst 256 d)) q = some z ∧ q ≠ d := fun q z e => by
    have n1 : q ≠ d := by rintro rfl; rw [fd] at e; cases e
    have n2 : q ≠ a := by rintro rfl; rw [fa] at e; cases e
    exact ⟨by rw [St.put_ne n2, St.put_ne n1]; exact e, n1⟩
  generalize ((σ.put d (.attrs 0 fun _ => none)).put a (.inst 256 d)) = σ₀ at *
  have old : ∀ {σ' : St} {b : Addr}, (∀ q z, σ q = some z → σ' q = some z) → σ' b = none → σ b = none := fun {σ' b} L hb => by
    cases e : σ b with
    | none => rfl
    | some z => rw [L b z e] at hb; cases hb
  refine XS_cons (X_bdL (o := .list []) X hc B₀ he rfl (ha _ (by decide)) (by exact Nat.zero_le _) rfl (fun Q q => E_list ⟨by simp, q⟩) fun dm σ₁ f₁ hb₁ B₁ ef₁ e₁ n₁ K₁ => ?_)
  have L₁ : ∀ q z, σ q = some z → σ₁ q = some z := fun q z e => (K₁ q z (L₀ q z e).1 (L₀ q z e).2).1
  refine XS_cons (X_bdL (o := .list []) X hc B₁ he rfl (ha _ (by decide)) (by exact ar29) (by rw [ef₁]; rfl) (fun Q q => E_list ⟨by simp, q⟩) fun fs σ₂ f₂ hb₂ B₂ ef₂ e₂ n₂ K₂ => ?_)
  have L₂ : ∀ q z, σ q = some z → σ₂ q = some z := fun q z e => (K₂ q z (L₁ q z e) (L₀ q z e).2).1
  refine XS_cons (X_bdL (o := .list []) X hc B₂ he rfl (ha _ (by decide)) (by exact ar30) (by rw [ef₂, ef₁]; rfl) (fun Q q => E_list ⟨by simp, q⟩) fun tr σ₃ f₃ hb₃ B₃ ef₃ e₃ n₃ K₃ => ?_)
  have L₃ : ∀ q z, σ q = some z → σ₃ q = some z := fun q z e => (K₃ q z (L₂ q z e) (L₀ q z e).2).1
  refine XS_cons (X_bdL (o := .list []) X hc B₃ he rfl (ha _ (by decide)) (by exact ar309) (by rw [ef₃, ef₂, ef₁]; rfl) (fun Q q => E_list ⟨by simp, q⟩) fun mk σ₄ f₄ hb₄ B₄ ef₄ e₄ n₄ K₄ => ?_)
  have L₄ : ∀ q z, σ q = some z → σ₄ q = some z := fun q z e => (K₄ q z (L₃ q z e) (L₀ q z e).2).1
  refine XS_cons (X_bdL (o := .idict 0) X hc B₄ he rfl (ha _ (by decide)) (by exact ar310) (by rw [ef₄, ef₃, ef₂, ef₁]; rfl) (fun Q q => E_dict0 q) fun nw σ₅ f₅ hb₅ B₅ ef₅ e₅ n₅ K₅ => ?_)
  have L₅ : ∀ q z, σ q = some z → σ₅ q = some z := fun q z e => (K₅ q z (L₄ q z e) (L₀ q z e).2).1
  refine XS_cons (X_bdV (u := .int (-1)) X hc B₅ he rfl (ha _ (by decide)) (by exact ar311) (by rw [ef₅, ef₄, ef₃, ef₂, ef₁]; rfl) (fun Q q => E_unary (E_int (O1_neg q))) fun σ₆ f₆ B₆ ef₆ K₆ => ?_)
  refine XS_cons (X_bdV (u := .val (.bool false)) X hc B₆ he rfl (ha _ (by decide)) (by exact ar312) (by rw [ef₆, ef₅, ef₄, ef₃, ef₂, ef₁]; rfl) (fun Q q => E_bool q) fun σ₇ f₇ B₇ ef₇ K₇ => ?_)
  refine XS_cons (X_bdV (u := .tup []) X hc B₇ he rfl (ha _ (by decide)) (by exact ar313) (by rw [ef₇, ef₆, ef₅, ef₄, ef₃, ef₂, ef₁]; rfl) (fun Q q => E_tuple ⟨by simp, q⟩) fun σ₈ f₈ B₈ ef₈ K₈ => ?_)
  refine XS_nil ⟨rfl, ?_⟩
  have kk : ∀ q z, σ₅ q = some z → q ≠ d → σ₈ q = some z := fun q z e n => K₈ _ _ (K₇ _ _ (K₆ _ _ e n) n) n
  have a1 : dm ≠ a := (K₁ a _ B₀.inst B₀.ne).2.symm
  have a2 : fs ≠ a := (K₂ a _ B₁.inst B₁.ne).2.symm
  have a3 : tr ≠ a := (K₃ a _ B₂.inst B₂.ne).2.symm
  have a4 : mk ≠ a := (K₄ a _ B₃.inst B₃.ne).2.symm
  have a5 : nw ≠ a := (K₅ a _ B₄.inst B₄.ne).2.symm
  have d2 := K₂ dm _ e₁ n₁
  have d3 := K₃ dm _ d2.1 n₁
  have d4 := K₄ dm _ d3.1 n₁
  have d5 := K₅ dm _ d4.1 n₁
  have s3 := K₃ fs _ e₂ n₂
  have s4 := K₄ fs _ s3.1 n₂
  have s5 := K₅ fs _ s4.1 n₂
  have t4 := K₄ tr _ e₃ n₃
  have t5 := K₅ tr _ t4.1 n₃
  have m5 := K₅ mk _ e₄ n₄
  refine h a ⟨d, dm, fs, tr, mk, nw⟩ σ₈ ⟨B₈.inst, ?_, kk _ _ d5.1 n₁, kk _ _ s5.1 n₂, kk _ _ t5.1 n₃, kk _ _ m5.1 n₄, kk _ _ e₅ n₅, ?_⟩ ?_ (fun q z e => kk _ _ (L₅ q z e) (L₀ q z e).2)
  · have ef : f₈ = sattr ⟨d, dm, fs, tr, mk, nw⟩ S0 := by
      funext x
      rw [ef₈, ef₇, ef₆, ef₅, ef₄, ef₃, ef₂, ef₁]
      by_cases h1 : x = "clash"
      · subst h1; rfl
      by_cases h2 : x = "is_failed"
      · subst h2; rfl
      by_cases h3 : x = "speaker"
      · subst h3; rfl
      by_cases h4 : x = "news"
      · subst h4; rfl
      by_cases h5 : x = "marks"
      · subst h5; rfl
      by_cases h6 : x = "trail"
      · subst h6; rfl
      by_cases h7 : x = "firsts"
      · subst h7; rfl
      by_cases h8 : x = "domains"
      · subst h8; rfl
      simp only [sattr, h1, h2, h3, h4, h5, h6, h7, h8, if_false]
    rw [← ef]; exact B₈.att
  · simp only [own, List.nodup_cons, List.mem_cons, List.not_mem_nil, not_or, or_false, not_false_eq_true, and_true, List.nodup_nil]
    exact ⟨⟨nad, Ne.symm a1, Ne.symm a2, Ne.symm a3, Ne.symm a4, Ne.symm a5⟩, ⟨Ne.symm n₁, Ne.symm n₂, Ne.symm n₃, Ne.symm n₄, Ne.symm n₅⟩, ⟨d2.2, d3.2, d4.2, d5.2⟩, ⟨s3.2, s4.2, s5.2⟩, ⟨t4.2, t5.2⟩, m5.2⟩
  · intro b hb
    simp only [own, List.mem_cons, List.not_mem_nil, or_false] at hb
    rcases hb with rfl | rfl | rfl | rfl | rfl | rfl | rfl
    · exact fa
    · exact fd
    · exact old (fun q z e => (L₀ q z e).1) hb₁
    · exact old L₁ hb₂
    · exact old L₂ hb₃
    · exact old L₃ hb₄
    · exact old L₄ hb₅
end
end Mine
end
section
open PySem PySem.W PySem.Calls PyProof.Rows
set_option maxRecDepth 100000
set_option linter.unusedVariables false
namespace Mine

noncomputable abbrev MK := Int ⊕ Str
noncomputable def mixIs : MK → Value → Bool
  | .inl i, v => Value.isInt i v
  | .inr x, v => Value.isStrOf x v
theorem mixIs_l {i : Int} {v : Value} (h : mixIs (.inl i) v = true) : ∃ t, v = .int i t := Value.isInt_shape h
theorem mixIs_r {x : Str} {v : Value} (h : mixIs (.inr x) v = true) : ∃ t, v = .str x t := Value.isStrOf_shape h
noncomputable def mixKind (prog : Program) (w : World) : KeyKind prog w MK where
  is := mixIs
  hash := fun k => match k with | .inl i => hashInt i | .inr x => hashStr w x
  inj := fun v a b ha hb => by
    cases a with
    | inl i =>
      obtain ⟨t, rfl⟩ := mixIs_l ha
      cases b with
      | inl j => obtain ⟨u, e⟩ := mixIs_l hb; injection e with e; rw [e]
      | inr y => obtain ⟨u, e⟩ := mixIs_r hb; cases e
    | inr x =>
      obtain ⟨t, rfl⟩ := mixIs_r ha
      cases b with
      | inl j => obtain ⟨u, e⟩ := mixIs_l hb; cases e
      | inr y => obtain ⟨u, e⟩ := mixIs_r hb; injection e with e; rw [e]
  byValue := fun k v h => by
    cases k with
    | inl i => obtain ⟨t, rfl⟩ := mixIs_l h; rfl
    | inr x => obtain ⟨t, rfl⟩ := mixIs_r h; rfl
  pyHash := fun {A E s k v Q} hv h => by
    cases k with
    | inl i => obtain ⟨t, rfl⟩ := mixIs_l hv; exact wpAny_pyHash_int h
    | inr x => obtain ⟨t, rfl⟩ := mixIs_r hv; exact wpAny_pyHash_str h
  eqBool := fun {A E s a b u v Q} hu hv h => by
    cases a with
    | inl i =>
      obtain ⟨t, rfl⟩ := mixIs_l hu
      cases b with
      | inl j =>
        obtain ⟨u, rfl⟩ := mixIs_l hv
        refine wpAny_eqBool_int ?_
        have e : (i == j) = decide ((.inl i : MK) = .inl j) := by
          by_cases q : i = j
          · subst q; simp
          · simp [q]
        rw [e]; exact h
      | inr y =>
        obtain ⟨u, rfl⟩ := mixIs_r hv
        refine SeqAt.EqAt.int_str i t y u _ _ _ _ ?_
        simpa using h
    | inr x =>
      obtain ⟨t, rfl⟩ := mixIs_r hu
      cases b with
      | inl j =>
        obtain ⟨u, rfl⟩ := mixIs_l hv
        refine SeqAt.EqAt.str_int x t j u _ _ _ _ ?_
        simpa using h
      | inr y =>
        obtain ⟨u, rfl⟩ := mixIs_r hv
        refine wpAny_eqBool_str ?_
        have e : decide (x = y) = decide ((.inr x : MK) = .inr y) := by
          by_cases q : x = y
          · subst q; simp
          · simp [q]
        rw [e]; exact h
  «strs» := fun k x t v h => by
    cases k with
    | inl i => obtain ⟨u, e⟩ := mixIs_l h; cases e
    | inr y => exact (strKind prog w).strs y x t v h

theorem mixKind_is (prog : Program) (w : World) : (mixKind prog w).is = mixIs := rfl
noncomputable abbrev T3 := Int × Str × Int
noncomputable abbrev t3v (t : T3) : V := .tup [.int t.1, .str t.2.1, .int t.2.2]
noncomputable def t3k (t : T3) : List MK := [.inl t.1, .inr t.2.1, .inl t.2.2]
theorem t3k_inj {a b : T3} (h : t3k a = t3k b) : a = b := by
  obtain ⟨a1, a2, a3⟩ := a
  obtain ⟨b1, b2, b3⟩ := b
  simp [t3k] at h
  obtain ⟨rfl, rfl, rfl⟩ := h
  rfl
theorem t3_key {prog : Program} {w : World} {h : Heap} {v : Value} {t : T3} (r : RepV h v (t3v t)) : ∃ a, v = .ref a ∧ IsTupleKey (mixKind prog w) h (t3k t) a := by
  obtain ⟨a, vs, e0, ⟨n, e⟩, rl⟩ := RepV.tup_inv (l := [.int t.1, .str t.2.1, .int t.2.2]) r
  obtain ⟨v1, v2, v3, ev, r1, r2, r3⟩ := rl.three
  obtain ⟨t1, f1⟩ := r1.int_inv
  obtain ⟨t2, f2⟩ := r2.str_inv
  obtain ⟨t3, f3⟩ := r3.int_inv
  rw [ev, f1, f2, f3] at e
  refine ⟨a, e0, _, _, n, e, rfl, rfl, ?_⟩
  refine .cons ?_ (.cons ?_ (.cons ?_ .nil))
  · simp [mixKind_is, mixIs, Value.isInt]
  · simp [mixKind_is, mixIs, Value.isStrOf]
  · simp [mixKind_is, mixIs, Value.isInt]

noncomputable def KD (ts : List T3) (h : Heap) (o : Obj) : Prop := o.ExactDict ∧ ∃ es ep, o.data = .dict es ep ∧ RepL h (es.toList.map (·.key)) (ts.map t3v)
noncomputable def kd3 (ts : List T3) : AO := .own (KD ts) (fun h h' o k ⟨a, es, ep, b, r⟩ => ⟨a, es, ep, b, r.mono k⟩) (fun h o ⟨a, es, ep, b, r⟩ m => by
  rcases m with ⟨_, vs, n, e⟩ | ⟨_, vs, e⟩ <;> rw [b] at e <;> cases e)

structure DS (y : Sy) (h : Heap) (D : Addr) (ts : List T3) : Prop where
  d : ∃ xs, h.DictOfH (tupleKind (mixKind y.prog y.w)) D xs ∧ (∀ x ∈ xs, ∃ t ∈ ts, x.1 = t3k t ∧ RepV h (.ref x.2.1) (t3v t)) ∧ (∀ t ∈ ts, t3k t ∈ xs.map (·.1)) ∧ xs.length ≤ ts.length
theorem DS.mono {y : Sy} {h h' : Heap} {D : Addr} {ts : List T3} (S : DS y h D ts) (kD : ∀ o, h.get? D = some o → h'.get? D = some o) (k : Imm h h') : DS y h' D ts := by
  obtain ⟨xs, ⟨o, es, ep, ho, hc, hd, he, hk, hn⟩, hx, hm, hl⟩ := S.d
  refine ⟨xs, ⟨o, es, ep, kD _ ho, hc, hd, he, fun x hx' => ?_, hn⟩, fun x hx' => ?_, hm, hl⟩
  · obtain ⟨o', items, n, ho', hc', hd', hi⟩ := hk x hx'
    exact ⟨o', items, n, k _ _ (.inl ⟨hc', _, _, hd'⟩) ho', hc', hd', hi⟩
  · obtain ⟨t, ht, e, r⟩ := hx x hx'
    exact ⟨t, ht, e, r.mono k⟩
theorem DS.isDict {y : Sy} {h : Heap} {D : Addr} {ts : List T3} (S : DS y h D ts) : ∃ o es ep, h.get? D = some o ∧ o.ExactDict ∧ o.data = .dict es ep := by
  obtain ⟨xs, ⟨o, es, ep, ho, hc, hd, _⟩, _⟩ := S.d
  exact ⟨o, es, ep, ho, hc, hd⟩
theorem atKey_mem {K : Type} [DecidableEq K] {xs : List (K × Addr × Value)} {k : K} : (atKey xs k).isSome = true ↔ k ∈ xs.map (·.1) := by
  unfold atKey
  rw [Option.isSome_map, List.find?_isSome, List.mem_map]
  constructor
  · rintro ⟨x, hx, e⟩; exact ⟨x, hx, of_decide_eq_true e⟩
  · rintro ⟨x, hx, e⟩; exact ⟨x, hx, decide_eq_true e⟩
theorem DS.put {y : Sy} {h h' : Heap} {D a : Addr} {ts : List T3} {t : T3} {v : Value} {xs : List (List MK × Addr × Value)} (hx : ∀ x ∈ xs, ∃ t ∈ ts, x.1 = t3k t ∧ RepV h (.ref x.2.1) (t3v t)) (hm : ∀ t ∈ ts, t3k t ∈ xs.map (·.1)) (hl : xs.length ≤ ts.length)
    (r : RepV h (.ref a) (t3v t)) (hd : h'.DictOfH (tupleKind (mixKind y.prog y.w)) D (storedH xs (t3k t) a v)) (k : Imm h h') : DS y h' D (ts ++ [t]) := by
  refine ⟨_, hd, fun x hx' => ?_, fun u hu => ?_, ?_⟩
  · unfold storedH at hx'
    split at hx'
    · obtain ⟨x₀, hx₀, rfl⟩ := List.mem_map.mp hx'
      obtain ⟨u, hu, e, ru⟩ := hx x₀ hx₀
      refine ⟨u, by simp [hu], ?_, ?_⟩
      · unfold putAt; split <;> exact e
      · have : (putAt (t3k t) v x₀).2.1 = x₀.2.1 := by unfold putAt; split <;> rfl
        rw [this]; exact ru.mono k
    · rcases List.mem_append.mp hx' with hx' | hx'
      · obtain ⟨u, hu, e, ru⟩ := hx x hx'
        exact ⟨u, by simp [hu], e, ru.mono k⟩
      · rw [List.mem_singleton] at hx'
        subst hx'
        exact ⟨t, by simp, rfl, r.mono k⟩
  · unfold storedH
    split
    · rename_i hs
      rw [keys_map_putAt]
      rcases List.mem_append.mp hu with hu | hu
      · exact hm u hu
      · rw [List.mem_singleton] at hu; subst hu; exact atKey_mem.mp hs
    · rw [List.map_append, List.mem_append]
      rcases List.mem_append.mp hu with hu | hu
      · exact .inl (hm u hu)
      · rw [List.mem_singleton] at hu; subst hu; exact .inr (by simp)
  · unfold storedH
    split <;> simp <;> (first | exact ar107 hl | assumption)

section
variable {y : Sy} {n : Nat} {env : Env} {W : Str → Prop} {ρ : Env1} {σ : St}
theorem Room.u0 {A : Around} (hA : Room A n) : A.units < cLine := by have := hA.un; exact ar330 this
theorem notIm_dict {o : Obj} {es : Array DictEntry} {ep : Nat} (h : o.data = .dict es ep) : ¬ Im o := by
  rintro (⟨_, vs, n, e⟩ | ⟨_, vs, e⟩) <;> rw [h] at e <;> cases e
inductive DLAt (y : Sy) (env : Env) (σ₁ : St) (h₁ : Heap) (D : Addr) (ts : List T3) (src : V) (v : Value) (J : Addr) (s : Shared) (m : Nat) (s' : Shared) : Prop
  | mk (h' : Heap) (tk : Nat) (ρ' : Env1) (i : Nat) (e : s' = sw s h' tk) (I : Inv y.B σ₁ h') (F : FrOK y.B env ρ' σ₁ h') (K : Keep No σ₁ h₁ σ₁ h') (S : DS y h' D (ts.take i)) (rv : RepV h' v src) (z : ItAt h' J v i src) (hi : i ≤ ts.length) (em : m = ts.length - i)
theorem dict_loop {A : Around} (hA : Room A n) {x : Str} {p1 p2 px : Pos} {k : Nat} {iter : Expr} {scope : Scope} {pos : Pos} {J D : Addr} {σ₁ : St} {h₁ : Heap} (hxk : env.kindOf x = some .local) (hdb : (x == ("__debug__" : Str)) = false) (ow : ∀ a, Own env (cW scope) a → h₁.get? a = none) (nDo : ¬ Own env (cW scope) D) (hd1 : h₁.get? D = none) (hdB : y.B.get? D = none) (hdS : σ₁ D = none)
    (hJ1 : h₁.get? J = none) (hJB : y.B.get? J = none) (hJS : σ₁ J = none) {src : V} {ts : List T3} (hz : ts.length ≤ 1000) (io : IterOf y σ₁ src (ts.map t3v)) {s : Shared} {ρ : Env1} {v : Value} {R : Result → Shared → Prop}
    (I : Inv y.B σ₁ s.heap) (F : FrOK y.B env ρ σ₁ s.heap) (K : Keep No σ₁ h₁ σ₁ s.heap) (S : DS y s.heap D []) (rv : RepV s.heap v src) (z : ItAt s.heap J v 0 src)
    (hR : ∀ h' tk ρ', Inv y.B σ₁ h' → FrOK y.B env ρ' σ₁ h' → Keep No σ₁ h₁ σ₁ h' → DS y h' D ts → R (.ok .next) (sw s h' tk)) :
    codeAny (model y.prog y.w) A (.compLoop (.DictComp (.Name x p1) (.Constant (.bool true) k p2) [⟨.Name x px, iter, [], 0⟩] scope pos) 0 (.ref J) (.ref D) env) R s := by
  refine codeAny_compLoop_testsD (DLAt y env σ₁ h₁ D ts src v J s) ?_ ts.length
    ⟨s.heap, s.toks, ρ, 0, rfl, I, F, K, by simpa using S, rv, z, Nat.zero_le _, rfl⟩
  rintro m _ ⟨h', tk, ρ', i, rfl, I', F', K', S', rv', z', hi, rfl⟩
  have nD : J ≠ D := by
    rintro rfl
    obtain ⟨o, es, ep, e, _, ed⟩ := S'.isDict
    obtain ⟨o', vs', e', hd', _⟩ := z'.data
    rw [e] at e'; cases e'; rw [ed] at hd'; cases hd'
  refine iter_next (s := sw s h' tk) hA.hd I' rv' io z' (by simpa using hi) (fun w u h₃ tk₃ ex ru z₃ k₃ => ?_) fun h₃ tk₃ ei k₃ => ?_
  · rw [List.getElem?_map] at ex
    obtain ⟨t, et, rfl⟩ := Option.map_eq_some_iff.mp ex
    have hlt : i < ts.length := by
      rcases Nat.lt_or_ge i ts.length with q | q
      · exact q
      · rw [List.getElem?_eq_none q] at et; cases et
    obtain ⟨o₃, vs₃, ho₃, hd₃, _⟩ := z₃.data
    obtain ⟨I₃, F₃, im₃⟩ := stepJ I' F' z' hJB hJS k₃
    have S₃ := S'.mono (fun o e => k₃ D o (Ne.symm nD) e) im₃
    have K₃ : Keep No σ₁ h₁ σ₁ h₃ := K'.transOff k₃ hJ1
    have rv₃ := rv'.mono im₃
    dsimp only
    refine wpAny_assign_Name ((store_local (s := sw s h₃ tk₃) (W := cW scope) I₃ F₃ hxk ru).use fun _ h₄ tk₄ σ₄ I₄ K₄ ⟨e, F₄⟩ => ?_)
    subst e
    have im₄ := K₄.imm I₃ F₃.noTup
    have nJ : ¬ Own env (cW scope) J := (F₃.offObj ho₃ (by simp [hd₃]) (by simp [hd₃])).2.2
    have S₄ := S₃.mono (fun o e => K₄.get D o e hdS nDo) im₄
    have K14 : Keep No σ₄ h₁ σ₄ h₄ := K₃.transNew K₄ fun a q => .inr (ow a q)
    obtain ⟨z₄, _⟩ := z₃.keepO K₄ hJS nJ
    have rv₄ := rv₃.mono im₄
    rw [List.forIn_nil]
    refine wpAny_pure ?_
    rw [if_pos rfl]
    refine ((E_local (y := y) (n := n) (Q := fun x σ' => x = t3v t ∧ σ' = σ₄) hxk (upd_self ..) ⟨rfl, rfl⟩ hdb) A hA (sw s h₄ tk₄) I₄ F₄).use fun kv h₅ tk₅ σ₅ I₅ K₅ ⟨_, rk, e1, e2⟩ => ?_
    subst e1 e2
    have F₅ := F₄.keep I₄ K₅
    have S₅ := S₄.mono (fun o e => K₅.get D o e hdS fun q => q) (K₅.imm I₄ (noTup_no _))
    obtain ⟨z₅, _⟩ := z₄.keepO K₅ hJS fun q => q
    have rv₅ := rv₄.keep I₄ K₅
    have K15 := K14.trans0 K₅
    refine wpAny_Constant_bool ?_
    obtain ⟨ka, rfl, hkey⟩ := t3_key (prog := y.prog) (w := y.w) rk
    obtain ⟨xs, hd, hx, hm, hl⟩ := S₅.d
    obtain ⟨oD, esD, epD, hoD, _, hdD⟩ := S₅.isDict
    have htl : (ts.take i).length ≤ ts.length := List.length_take_le' ..
    refine wpAny_dictSet_heap (knd := tupleKind (mixKind y.prog y.w)) (s := sw s h₅ tk₅) hA.u0 hkey hd (fun h₆ hd₆ hs₆ => ?_) (by rw [sizeLine_eq]; exact ar331 hz hl htl)
    have k6 : ∀ b o, b ≠ D → h₅.get? b = some o → h₆.get? b = some o := fun b o hb e => hs₆.extBut b o hb e
    have nt : NoTup (· = D) h₅ := fun a o m e q => by subst q; rw [hoD] at e; cases e; exact notIm_dict hdD m
    obtain ⟨o₆, es₆, ep₆, ho₆, _⟩ := id hd₆
    obtain ⟨I₆, K₆⟩ := growBut I₅ nt (by rintro x rfl; exact hdB) (by rintro x rfl; exact hdS) k6 (by rintro b o rfl _; exact ⟨_, ho₆⟩)
    have im₆ := K₆.imm I₅ nt
    refine ⟨ts.length - (i + 1), by exact ar332 hlt, h₆, _, _, i + 1, rfl, I₆, F₅.keepX I₅ K₆.k0 nt (fun q => nDo (.inl q.symm)) (fun x c e q => ?_), K15.transOff k6 hd1, ?_, rv₅.mono im₆, ?_, hlt, rfl⟩
    · subst q
      obtain ⟨_, _, v', ⟨o', ho', hc'⟩, _⟩ := F₅.cell x _ e
      rw [hoD] at ho'; cases ho'; rw [hdD] at hc'; cases hc'
    · have e : ts.take (i + 1) = ts.take i ++ [t] := by rw [List.take_add_one, et]; rfl
      rw [e]
      exact DS.put hx hm hl rk hd₆ im₆
    · exact z₅.at' fun o e => k6 J o nD e
  · have hil : i = ts.length := by simpa using ei
    subst hil
    obtain ⟨I₃, F₃, im₃⟩ := stepJ I' F' z' hJB hJS k₃
    have S₃ := S'.mono (fun o e => k₃ D o (Ne.symm nD) e) im₃
    rw [List.take_length] at S₃
    exact hR h₃ tk₃ ρ' I₃ F₃ (K'.transOff k₃ hJ1) S₃

theorem DS.kd {y : Sy} {h : Heap} {D : Addr} {ts : List T3} (S : DS y h D ts) : ∃ ts' o, h.get? D = some o ∧ KD ts' h o ∧ (∀ t, t ∈ ts' ↔ t ∈ ts) ∧ ts'.length ≤ ts.length := by
  obtain ⟨xs, ⟨o, es, ep, ho, hc, hd, he, hk, hn⟩, hx, hm, hl⟩ := S.d
  have key : ∀ xs : List (List MK × Addr × Value), (∀ x ∈ xs, ∃ t ∈ ts, x.1 = t3k t ∧ RepV h (.ref x.2.1) (t3v t)) → ∃ ts' : List T3, RepL h ((xs.map (entryOfKey (tupleKind (mixKind y.prog y.w)))).map (·.key)) (ts'.map t3v) ∧ (∀ t ∈ ts', t ∈ ts) ∧ xs.map (·.1) = ts'.map t3k := by
    intro xs
    induction xs with
    | nil => intro _; exact ⟨[], .nil, by simp, rfl⟩
    | cons x xs ih =>
      intro hx
      obtain ⟨ts', r, a, b⟩ := ih fun z hz => hx z (.tail _ hz)
      obtain ⟨t, ht, e, rt⟩ := hx x (.head _)
      refine ⟨t :: ts', .cons rt r, fun u hu => ?_, by simp [e, b]⟩
      rcases List.mem_cons.mp hu with rfl | hu
      · exact ht
      · exact a u hu
  obtain ⟨ts', r, a, b⟩ := key xs hx
  refine ⟨ts', o, ho, ⟨hc, es, ep, hd, by rw [he]; exact r⟩, fun t => ⟨a t, fun ht => ?_⟩, ?_⟩
  · have := hm t ht
    rw [b] at this
    obtain ⟨u, hu, e⟩ := List.mem_map.mp this
    rw [← t3k_inj e]; exact hu
  · have := congrArg List.length b
    simp at this; exact ar333 hl this

inductive KDT (y : Sy) (Q : V → St → Prop) (src : V) (σ₁ : St) : Prop
  | mk (ts : List T3) (io : IterOf y σ₁ src (ts.map t3v)) (hz : ts.length ≤ 1000) (h : ∀ a ts', σ₁ a = none → (a == sysModules) = false → (∀ t, t ∈ ts' ↔ t ∈ ts) → ts'.length ≤ ts.length → Q (.val (.ref a)) (σ₁.put a (kd3 ts')))
theorem E_dictTrue {x : Str} {p1 p2 px : Pos} {k : Nat} {iter : Expr} {scope : Scope} {pos : Pos} {Q : V → St → Prop} (h3 : ∃ o, y.B.get? 3 = some o) (hsc : scOKb scope env.kindOf = true) (hx : scope.names.lookup x = some .local)
    (h : EV y n env ρ σ iter (KDT y Q))
    (hs : ∀ x, foldedSetIterable iter env x = pure x := by intro _; rfl) (hdb : (x == ("__debug__" : Str)) = false := by rfl) : EV y n env ρ σ (.DictComp (.Name x p1) (.Constant (.bool true) k p2) [⟨.Name x px, iter, [], 0⟩] scope pos) Q :=
  fun A hA s I F E => by
    rw [arm_eval_DictComp]
    have hsc := ScOK.of hsc
    refine wpAny_comprehension_free (use := none) rfl hs (closure_eq fun p hp e => F.has _ (hsc.free p hp e)) hsc.kind (fun x hx e => by rw [← e]; exact hsc.uniq x hx) ?_
    refine (h A hA s I F).use fun v h₁ tk σ₁ I₁ K₁ ⟨src, rv, ts, io, hz, q⟩ => ?_
    obtain ⟨f1, f2, f3⟩ := freshB I₁
    have F₁ := F.keep I K₁
    refine iter_start (s := sw s h₁ tk) I₁ rv io fun o z => ?_
    obtain ⟨I₂, K₂⟩ := Keep.tup I₁ o
    have F₂ := F₁.keep I₁ K₂
    refine wpAny_newObj_type ?_
    obtain ⟨g1, g2, g3⟩ := freshB I₂
    obtain ⟨I₃, K₃⟩ := Keep.tup I₂ { cls := .type "dict", data := .dict #[] }
    have F₃ := F₂.keep I₂ K₃
    have hJ := z.data
    have d1 : h₁.get? (h₁.push o).objs.size = none := by
      cases e : h₁.get? (h₁.push o).objs.size with
      | none => rfl
      | some o' => obtain ⟨o'', e''⟩ := K₂.all _ o' e; rw [g3] at e''; cases e''
    have lo : ((h₁.push o).objs.size == sysModules) = false := by
      obtain ⟨o3, e3⟩ := h3
      have : (3 : Nat) < h₁.objs.size := Heap.lt_size (I₁.base _ _ e3)
      rw [Heap.size_push]
      show ((h₁.objs.size + 1 : Nat) == (1 : Nat)) = false
      rw [beq_eq_false_iff_ne]; exact ar334 this
    refine newEnv_comp ?_
    have DS3 : DS y ((h₁.push o).push { cls := .type "dict", data := .dict #[] }) (h₁.push o).objs.size [] := ⟨[], Heap.DictOfH.new _, by simp, by simp, Nat.le_refl _⟩
    generalize hD : (h₁.push o).objs.size = D at *
    have hDl : ((h₁.push o).push { cls := .type "dict", data := .dict #[] }).get? D = some { cls := .type "dict", data := .dict #[] } := by rw [← hD]; exact Heap.get?_push_size _ rfl
    obtain ⟨F₄, ow⟩ := cEnv_ok F₃ I₃ hsc
    generalize hH3 : (h₁.push o).push { cls := .type "dict", data := .dict #[] } = H₃ at *
    obtain ⟨k1, k2, k3⟩ := freshB I₃
    have keep4 : ∀ b o', H₃.get? b = some o' → (pushCells (H₃.push { cls := .type "dict", data := .dict #[] }) scope.names).get? b = some o' := fun b o' e => pushCells_keeps _ _ _ _ (Heap.get?_push_of_some _ e)
    obtain ⟨I₄, K₄⟩ := grow I₃ keep4
    have K13 : Keep No σ₁ h₁ σ₁ H₃ := K₂.trans0 K₃
    have K14 := K13.trans0 K₄
    have old1 : ∀ a, H₃.get? a = none → h₁.get? a = none := fun a e => by
      cases e' : h₁.get? a with
      | none => rfl
      | some o' => obtain ⟨o'', e''⟩ := K13.all _ o' e'; rw [e] at e''; cases e''
    have S₄ : DS y (pushCells (H₃.push { cls := .type "dict", data := .dict #[] }) scope.names) D [] := DS3.mono (fun o' e => keep4 _ _ e) fun a o' _ e => keep4 _ _ e
    have z₄ : ItAt (pushCells (H₃.push { cls := .type "dict", data := .dict #[] }) scope.names) h₁.objs.size v 0 src := z.at' fun o' e => keep4 _ _ (by rw [← hH3]; exact Heap.get?_push_of_some _ e)
    have hC1 : h₁.get? H₃.objs.size = none := old1 _ k3
    have nDo : ¬ Own (cEnv scope env H₃.objs.size) (cW scope) D := fun q => by rw [ow D q] at hDl; cases hDl
    have hxk : (cEnv scope env H₃.objs.size).kindOf x = some .local := by rw [cEnv_kind, hx]; rfl
    have loop : codeAny (model y.prog y.w) A (.compLoop (.DictComp (.Name x p1) (.Constant (.bool true) k p2) [⟨.Name x px, iter, [], 0⟩] scope pos) 0 (.ref h₁.objs.size) (.ref D) (cEnv scope env H₃.objs.size)) (compPost (model y.prog y.w) A E none (Post y No s σ (QV Q)) (.ref D) H₃.objs.size)
        { s with heap := pushCells (H₃.push { cls := .type "dict", data := .dict #[] }) scope.names, toks := tk } := by
      refine dict_loop hA hxk hdb (fun a q => old1 a (ow a q)) nDo d1 g1 g2 f3 f1 f2 hz io (s := { s with heap := pushCells (H₃.push { cls := .type "dict", data := .dict #[] }) scope.names, toks := tk }) I₄ F₄ K14 S₄ (rv.keep I₁ K14) z₄ ?_
      intro h' tk' ρ' I' F' K' S'
      obtain ⟨ts', oD, hoD, hkd, hm, hl⟩ := S'.kd
      obtain ⟨mC, hnC, _⟩ := F'.ns
      have cl1 : H₃.objs.size ≠ D := fun e => by rw [← e] at hDl; rw [hDl] at k3; cases k3
      have Io : Inv y.B (σ₁.put D (kd3 ts')) h' := ⟨I'.base, fun a x e => by
          by_cases q : a = D
          · rw [q, St.put_self] at e; cases e; rw [q]; exact ⟨_, hoD, hkd⟩
          · rw [St.put_ne q] at e; exact I'.obj a x e, fun a x e => by
          by_cases q : a = D
          · rw [q]; exact g1
          · rw [St.put_ne q] at e; exact I'.new a x e⟩
      refine ⟨mC, hnC, fun h'' hs'' => ?_⟩
      have nt : NoTup (· = H₃.objs.size) h' := fun a o' mm e q => by
        subst q
        obtain ⟨o, es, ep, ho, hd, _⟩ := hnC
        rw [show (cEnv scope env H₃.objs.size).locals = H₃.objs.size from rfl] at ho
        rw [ho] at e; cases e; exact notIm_dict hd mm
      have kk : ∀ b o, b ≠ H₃.objs.size → h'.get? b = some o → h''.get? b = some o := fun b o hb e => hs''.extBut b o hb e
      obtain ⟨I₆, K₆⟩ := growBut0 Io nt (by rintro x rfl; exact k1) (by rintro x rfl; rw [St.put_ne cl1]; exact k2) kk
      have KK : Keep No σ s.heap (σ₁.put D (kd3 ts')) h' := by
        have KK := K₁.trans0 K'
        refine ⟨KK.get, fun b o' e zz => ?_, KK.all⟩
        have : b ≠ D := fun q => by
          obtain ⟨o'', e''⟩ := K₁.all b o' e
          rw [q, d1] at e''; cases e''
        rw [St.put_ne this]; exact KK.off b o' e zz
      have hC0 : s.heap.get? H₃.objs.size = none := by
        cases e : s.heap.get? H₃.objs.size with
        | none => rfl
        | some o' => obtain ⟨o'', e''⟩ := K₁.all _ o' e; rw [hC1] at e''; cases e''
      exact ⟨h'', tk', _, rfl, I₆, KK.transOff kk hC0, _, .val _, q D ts' g2 lo hm hl⟩
    have e1 : ∀ cl, ({ scope := scope, locals := H₃.objs.size, globals := env.globals, cells := cl, qual := env.qual, func := none, code := env.code, frame := env.frame, builtins := env.builtins } : Env) = { (cEnv scope env H₃.objs.size) with scope := scope, cells := cl } := fun _ => rfl
    exact codeAny_compStart_dict loop (iter_self (s := { s with heap := pushCells (H₃.push { cls := .type "dict", data := .dict #[] }) scope.names, toks := tk }) z₄ loop)
end
end Mine
end
section
open PySem PySem.W PySem.Calls PyProof.Rows
set_option maxRecDepth 100000
set_option linter.unusedVariables false
namespace Mine

section
variable {prog : Program} {w : World} {A : Around} {E : Value → Shared → Prop} {s : Shared} {d : Addr} {o : Obj} {es : Array DictEntry} {ep : Nat}
theorem rawIter {Q : Value → Shared → Prop} (lo : (d == sysModules) = false) (ho : s.heap.get? d = some o) (hc : o.ExactDict) (hdat : o.data = .dict es ep)
    (hQ : Q (.ref s.heap.objs.size) { s with heap := s.heap.push { cls := .type "dict_keyiterator", data := .fields #[.ref d, .int 0 0, .int es.size 0, .int ep 0] } }) :
    wpAny (model prog w) A (pyIter (.ref d)) Q E s := by
  have hT : s.TypeIs (.ref d) "dict" := ⟨o, ho, hc.1⟩
  refine wpAny_pyIter_slot hT F.slot_dict_iter (wpAny_call_entry F.slot_dict_iter hT F.entry_dict_iter ?_ (F.args_dict_iter_1 _))
  unfold Builtin.«dict.__iter__»
  refine wpAny_bind ?_
  unfold Builtin.Dict.dictSlotNone
  refine wpAny_bind (wpAny_notOrdered_dict hT ?_)
  show wpAny _ _ (pure (Value.ref d)) _ _ s
  refine wpAny_pure ?_
  show wpAny _ _ (Builtin.Dict.showsAll d >>= _) _ _ s
  unfold Builtin.Dict.showsAll
  rw [if_neg (by rw [lo]; exact Bool.false_ne_true)]
  refine wpAny_bind (wpAny_pure ?_)
  refine wpAny_bind (wpAny_dictEntries ho hdat ?_)
  refine wpAny_bind (wpAny_dictEpoch ho hdat ?_)
  refine wpAny_bind (wpAny_newObj_type (wpAny_pure ⟨_, rfl, "dict_keyiterator", _, ⟨_, Heap.get?_push_size _ rfl, rfl⟩, F.slot_dict_keyiterator_next.lookup, ?_⟩))
  simpa [rawInt] using hQ
theorem rawNext {it : Addr} {i : Nat} {Q : Option Value → Shared → Prop} (hit : s.heap.IsKeyIter it d i es.size ep) (hod : s.heap.get? d = some o) (hdd : o.data = .dict es ep) (hlt : i < es.size)
    (hQ : ∀ h', h'.IsKeyIter it d (i + 1) es.size ep → Heap.SameBut it s.heap h' → Q (some es[i].key) { s with heap := h' }) :
    wpAny (model prog w) A (pyNext (.ref it)) Q E s := by
  obtain ⟨oi, hoi, hci, hdi⟩ := id hit
  unfold pyNext
  refine wpAny_bind (wpAny_attempt (wpAny_callSpecial?_slot (name := Str.ofString "__next__") hit.typeIs F.slot_dict_keyiterator_next
    (wpAny_call_entry F.slot_dict_keyiterator_next hit.typeIs F.entry_dict_keyiterator_next ?_ (F.args_dict_keyiterator_next_1 _))))
  refine wpAny_bind (wpAny_pure ?_)
  refine wpAny_bind ?_
  refine wpAny_bind ?_
  first | refine wpAny_bind (wpAny_typeNameOfWhole_keyiter hit.typeIs (wpAny_pure ?_)) | refine wpAny_bind (wpAny_typeNameOf_keyiter hit.typeIs (wpAny_pure ?_))
  refine wpAny_bind (wpAny_fieldsOf hoi hdi ?_)
  show wpAny _ _ (if (Value.ref d == Value.none) = true then _ else _) _ _ s
  rw [if_neg (show ¬ ((Value.ref d == Value.none) = true) from Bool.false_ne_true)]
  refine wpAny_bind (wpAny_pure ?_)
  refine wpAny_bind (wpAny_dictEntries hod hdd ?_)
  rw [if_neg (by simp)]
  refine wpAny_bind (wpAny_pure ?_)
  refine wpAny_bind (wpAny_dictEpoch hod hdd ?_)
  rw [if_neg (by simp)]
  refine wpAny_pure ?_
  dsimp only
  rw [show (if ((i : Int) < 0) then none else es[((i : Int)).toNat]?) = some es[i] from (if_neg ar216).trans (Array.getElem?_eq_getElem hlt)]
  refine wpAny_bind ?_
  first | refine wpAny_bind (wpAny_typeNameOfWhole_keyiter hit.typeIs (wpAny_pure ?_)) | refine wpAny_bind (wpAny_typeNameOf_keyiter hit.typeIs (wpAny_pure ?_))
  refine wpAny_bind (wpAny_isOneOf_keyiter hit.typeIs ?_)
  show wpAny _ _ (setField (.ref it) 1 (rawInt ((i : Int) + 1)) >>= _) _ _ s
  refine wpAny_bind (wpAny_setField hoi hdi (by simp) ?_)
  have hit' : (s.heap.update it (Obj.mapFields (·.setIfInBounds 1 (rawInt ((i : Int) + 1))))).IsKeyIter it d (i + 1) es.size ep :=
    ⟨_, Heap.get?_update_self _ hoi (Obj.isFreed_of_fields (Obj.data_mapFields hdi _)), (Obj.cls_mapFields ..).trans hci, by rw [Obj.data_mapFields hdi]; simp [rawInt]⟩
  refine wpAny_bind (wpAny_holding ?_)
  refine wpAny_bind (wpAny_isOneOf_keyiter (s := { s with heap := s.heap.update it (Obj.mapFields (·.setIfInBounds 1 (rawInt ((i : Int) + 1)))) }) hit'.typeIs ?_)
  show wpAny _ _ (pure es[i].key) _ _ _
  exact wpAny_pure (wpAny_pure ⟨_, rfl, wpAny_pure (hQ _ hit' (Heap.SameBut.update ..))⟩)
theorem rawEnd {it : Addr} {Q : Option Value → Shared → Prop} (hh : A.handled = none) (hit : s.heap.IsKeyIter it d es.size es.size ep) (hod : s.heap.get? d = some o) (hdd : o.data = .dict es ep)
    (hQ : ∀ h', Heap.ExtBut it s.heap h' → Q none { s with heap := h' }) : wpAny (model prog w) A (pyNext (.ref it)) Q E s := by
  obtain ⟨oi, hoi, hci, hdi⟩ := id hit
  unfold pyNext
  refine wpAny_bind (wpAny_attempt (wpAny_callSpecial?_slot (name := Str.ofString "__next__") hit.typeIs F.slot_dict_keyiterator_next
    (wpAny_call_entry F.slot_dict_keyiterator_next hit.typeIs F.entry_dict_keyiterator_next ?_ (F.args_dict_keyiterator_next_1 _))))
  refine wpAny_bind (wpAny_pure ?_)
  refine wpAny_bind ?_
  refine wpAny_bind ?_
  first | refine wpAny_bind (wpAny_typeNameOfWhole_keyiter hit.typeIs (wpAny_pure ?_)) | refine wpAny_bind (wpAny_typeNameOf_keyiter hit.typeIs (wpAny_pure ?_))
  refine wpAny_bind (wpAny_fieldsOf hoi hdi ?_)
  show wpAny _ _ (if (Value.ref d == Value.none) = true then _ else _) _ _ s
  rw [if_neg (show ¬ ((Value.ref d == Value.none) = true) from Bool.false_ne_true)]
  refine wpAny_bind (wpAny_pure ?_)
  refine wpAny_bind (wpAny_dictEntries hod hdd ?_)
  rw [if_neg (by simp)]
  refine wpAny_bind (wpAny_pure ?_)
  refine wpAny_bind (wpAny_dictEpoch hod hdd ?_)
  rw [if_neg (by simp)]
  refine wpAny_pure ?_
  dsimp only
  rw [show (if ((es.size : Int) < 0) then none else es[((es.size : Int)).toNat]?) = none from (if_neg ar216).trans (Array.getElem?_eq_none (Nat.le_refl es.size))]
  refine wpAny_bind ?_
  first | refine wpAny_bind (wpAny_typeNameOfWhole_keyiter hit.typeIs (wpAny_pure ?_)) | refine wpAny_bind (wpAny_typeNameOf_keyiter hit.typeIs (wpAny_pure ?_))
  show wpAny _ _ (setField (.ref it) 0 .none >>= _) _ _ s
  refine wpAny_bind (wpAny_setField hoi hdi (by simp) ?_)
  show wpAny _ _ (newExc (.type "StopIteration") [] >>= _) _ _ _
  refine wpAny_bind ?_
  simp only [newExc, newTuple]
  refine wpAny_bind (wpAny_newObj_type ?_ (by size_fits))
  refine wpAny_bind (m := firstArgMember _ _) (wpAny_of_eq (a := Value.none) (by first | rfl | (simp only [firstArgMember]; rfl)) ?_)
  refine wpAny_newObj_type ?_ (by size_fits)
  simp only [raiseNew]
  refine wpAny_bind (wpAny_handled ?_)
  rw [show A.in1.handled = none from hh]
  refine wpAny_bind (wpAny_pure (wpAny_throw ?_))
  refine wpAny_bind (wpAny_isInstance (T := "StopIteration") (b := true) ⟨_, Heap.get?_push_size _ rfl, rfl⟩ isSubtype_stop ?_)
  exact wpAny_pure (hQ _ (((Heap.SameBut.update ..).extBut.push _).push _))
theorem rawWalks (hh : A.handled = none) (I : Addr) (hne : d ≠ I) (hd : o.data = .dict es ep) :
    Walks prog w A I [I, d] [I] es.size (fun i v => (es.toList.map (·.key))[i]? = some v) (fun i h => h.IsKeyIter I d i es.size ep ∧ h.get? d = some o) where
  sub := fun b hb => by simp at hb; simp [hb]
  frame := fun _ _ _ st hk => ⟨let ⟨o', ho', r⟩ := st.1; ⟨o', hk I (by simp) o' ho', r⟩, hk d (by simp) o st.2⟩
  item := fun i s Q E hi st hQ => by
    refine rawNext st.1 st.2 hd hi fun h' hit' hs' => ?_
    exact hQ _ h' s.toks (by simp [hi]) ⟨hit', hs'.extBut d o hne st.2⟩ fun b o hb e => hs'.extBut b o (fun h => hb (by simp [h])) e
  done := fun s Q E st hQ => rawEnd hh st.1 st.2 hd fun h' he' => hQ h' s.toks fun b o hb e => he' b o (fun h => hb (by simp [h])) e
  self := fun _ _ _ _ st hQ => wpAny_pyIter_keyiter st.1 hQ
theorem rawSrc (lo : (d == sysModules) = false) (hc : o.ExactDict) (hd : o.data = .dict es ep) : KdlSrc prog w "dict" d d es.size (fun i v => (es.toList.map (·.key))[i]? = some v) (fun h => h.get? d = some o) where
  type := fun _ hm => ⟨o, hm, hc.1⟩
  there := fun _ hm => ⟨Heap.lt_size hm, Heap.lt_size hm⟩
  keep := fun _ _ hm hk => hk d (.inl rfl) o hm
  notList := by decide
  notTuple := by decide
  hint := fun _ _ _ _ hm hq => kdl_hint_dict ⟨o, hm, hc.1⟩ hq
  iter := fun _ _ hh hm => ⟨_, _, (fun _ _ hq => rawIter lo hm hc hd hq), rawWalks hh _ (Nat.ne_of_lt (Heap.lt_size hm)) hd, ⟨⟨_, Heap.get?_push_size _ rfl, rfl, rfl⟩, Heap.get?_push_of_some _ hm⟩⟩
end

section
variable {prog : Program} {w : World} {A : Around} {E : Value → Shared → Prop} {s : Shared}
theorem t3_lt {v u : Value} {a b : T3} {Q : Bool → Shared → Prop} (rv : RepV s.heap v (t3v a)) (ru : RepV s.heap u (t3v b)) (h : ∀ c, Q c s) : wpAny (model prog w) A (keyLt' (tuples' true) v u) Q E s := by
  obtain ⟨x, vs, e0, ⟨n, e⟩, rl⟩ := RepV.tup_inv (l := [.int a.1, .str a.2.1, .int a.2.2]) rv
  obtain ⟨z, us, e0', ⟨m, e'⟩, rk⟩ := RepV.tup_inv (l := [.int b.1, .str b.2.1, .int b.2.2]) ru
  obtain ⟨v1, v2, v3, ev, r1, r2, r3⟩ := rl.three
  obtain ⟨u1, u2, u3, eu, s1, s2, s3⟩ := rk.three
  obtain ⟨t1, f1⟩ := r1.int_inv
  obtain ⟨t2, f2⟩ := r2.str_inv
  obtain ⟨t3, f3⟩ := r3.int_inv
  obtain ⟨t4, f4⟩ := s1.int_inv
  obtain ⟨t5, f5⟩ := s2.str_inv
  obtain ⟨t6, f6⟩ := s3.int_inv
  rw [ev, f1, f2, f3] at e
  rw [eu, f4, f5, f6] at e'
  rw [e0, e0']
  refine kat_lt e rfl e' rfl ?_
  refine kat_cons (wpAny_eqBool_int ?_)
  refine kat_go (fun _ => kat_yes ?_) (fun _ => kat_no (oneLt_int (h _)))
  refine kat_cons (wpAny_eqBool_str ?_)
  refine kat_go (fun _ => kat_yes ?_) (fun _ => kat_no (kat_one _ _ (lt_str (h _))))
  refine kat_cons (wpAny_eqBool_int ?_)
  refine kat_go (fun _ => kat_yes ?_) (fun _ => kat_no (kat_one _ _ (lt_int (h _))))
  exact kat_nil (h _)
end

noncomputable def okB (n : Nat) : KasT (Array Nat) → Bool
  | .ret a => a.toList.isPerm (List.range n)
  | .ask i j k => decide (i < n) && decide (j < n) && okB n (k true) && okB n (k false)
theorem ok2 : okB 2 (kas_sort 2) = true := by decide +kernel
theorem ok3 : okB 3 (kas_sort 3) = true := by decide +kernel
theorem kas_any {cmp : Nat → Nat → (Bool → Shared → Prop) → Shared → Prop} {n : Nat} {s : Shared} {Q : Array Nat → Shared → Prop} (hc : ∀ i j C, i < n → j < n → (∀ b, C b s) → cmp i j C s) (hq : ∀ p : Array Nat, p.toList.Perm (List.range n) → Q p s) :
    ∀ t : KasT (Array Nat), okB n t = true → t.kasWp cmp Q s
  | .ret a, h => hq a (List.isPerm_iff.mp h)
  | .ask i j k, h => by
    simp only [okB, Bool.and_eq_true, decide_eq_true_eq] at h
    refine hc i j _ h.1.1.1 h.1.1.2 fun b => ?_
    cases b with
    | true => exact kas_any hc hq (k true) h.1.2
    | false => exact kas_any hc hq (k false) h.2
theorem perm_pick {vs : List Value} {p : Array Nat} (h : p.toList.Perm (List.range vs.length)) : (p.toList.map fun i => vs.getD i Value.none).Perm vs := by
  have e : (List.range vs.length).map (fun i => vs.getD i Value.none) = vs := by
    apply List.ext_getElem?
    intro i
    rw [List.getElem?_map]
    by_cases hi : i < vs.length
    · rw [List.getElem?_range hi, List.getElem?_eq_getElem hi]
      simp [hi]
    · rw [List.getElem?_eq_none (by simpa using hi), List.getElem?_eq_none (by exact ar4 hi)]; rfl
  exact (h.map _).trans (by rw [e])
theorem RepL.mem {h : Heap} {vs : List Value} {l : List V} (r : RepL h vs l) : ∀ v ∈ vs, ∃ x ∈ l, RepV h v x :=
  r.ind (P := fun vs l => ∀ v ∈ vs, ∃ x ∈ l, RepV h v x) (fun _ q => absurd q List.not_mem_nil) fun _ x _ _ a _ ih v hv =>
    (List.mem_cons.mp hv).elim (fun e => ⟨x, .head _, e ▸ a⟩) fun q => let ⟨z, hz, rz⟩ := ih v q; ⟨z, .tail _ hz, rz⟩
theorem t3_tups {h : Heap} {vs : List Value} {ts : List T3} (r : RepL h vs (ts.map t3v)) : ∃ fs, KatTups h vs fs ∧ fs.length = vs.length ∧ ∀ v ∈ fs, ∃ i t, v = .int i t := by
  induction ts generalizing vs with
  | nil => rw [RepL.nil_inv r]; exact ⟨[], KatTups.nil, rfl, fun _ q => absurd q List.not_mem_nil⟩
  | cons t ts ih =>
    obtain ⟨v, us, e, r, rs⟩ := RepL.cons_inv r
    obtain ⟨fs, a, b, c⟩ := ih rs
    obtain ⟨x, ws, ev, ⟨n, e'⟩, rl⟩ := RepV.tup_inv r
    obtain ⟨w, _, ew, r1, _⟩ := rl.cons_inv
    obtain ⟨tk, ei⟩ := r1.int_inv
    rw [e, ev]
    rw [ew, ei] at e'
    refine ⟨.int t.1 tk :: fs, KatTups.cons e' rfl rfl rfl a, congrArg Nat.succ b, fun v hv => (List.mem_cons.mp hv).elim (fun e => ⟨_, _, e⟩) (c v)⟩
theorem repL_perm {h : Heap} {vs : List Value} {ts : List T3} (r : RepL h vs (ts.map t3v)) : ∀ {out : List Value}, (∀ v ∈ out, v ∈ vs) → ∃ ts' : List T3, RepL h out (ts'.map t3v) ∧ ∀ t ∈ ts', t ∈ ts
  | [], _ => ⟨[], .nil, by simp⟩
  | v :: out, h' => by
    obtain ⟨ts', a, b⟩ := repL_perm r (out := out) fun z hz => h' z (.tail _ hz)
    obtain ⟨x, hx, rx⟩ := r.mem v (h' v (.head _))
    obtain ⟨t, ht, rfl⟩ := List.mem_map.mp hx
    refine ⟨t :: ts', .cons rx a, fun u hu => ?_⟩
    rcases List.mem_cons.mp hu with rfl | hu
    · exact ht
    · exact b u hu
theorem t3v_fun {h : Heap} {v : Value} {a b : T3} (r : RepV h v (t3v a)) (r' : RepV h v (t3v b)) : a = b := by
  obtain ⟨x, vs, e, ⟨n, p⟩, rl⟩ := RepV.tup_inv (l := [.int a.1, .str a.2.1, .int a.2.2]) r
  obtain ⟨z, us, e', ⟨k, q⟩, rk⟩ := RepV.tup_inv (l := [.int b.1, .str b.2.1, .int b.2.2]) r'
  have hxz : x = z := by rw [e] at e'; injection e'
  rw [hxz, q] at p
  have hvu : vs = us := by
    have := congrArg (fun o : Option Obj => o.map Obj.data) p
    simp at this
    exact this.1.symm
  obtain ⟨v1, v2, v3, ev, r1, r2, r3⟩ := rl.three
  obtain ⟨u1, u2, u3, eu, s1, s2, s3⟩ := rk.three
  rw [ev, eu] at hvu
  obtain ⟨t1, f1⟩ := r1.int_inv
  obtain ⟨t2, f2⟩ := r2.str_inv
  obtain ⟨t3, f3⟩ := r3.int_inv
  obtain ⟨t4, f4⟩ := s1.int_inv
  obtain ⟨t5, f5⟩ := s2.str_inv
  obtain ⟨t6, f6⟩ := s3.int_inv
  rw [f1, f2, f3, f4, f5, f6] at hvu
  simp only [List.cons.injEq, Value.int.injEq, Value.str.injEq, and_true] at hvu
  exact Prod.ext hvu.1.1 (Prod.ext hvu.2.1.1 hvu.2.2.1)
section
variable {prog : Program} {w : World} {A : Around} {E : Value → Shared → Prop} {s : Shared}
theorem t3_sort {a : Addr} {vs : List Value} {ts : List T3} {n : Nat} {P : PySem.Fin → Shared → Prop} (ho : s.heap.get? a = some (seqObj "list" vs.toArray n)) (h3 : vs.length ≤ 3) (rv : RepL s.heap vs (ts.map t3v))
    (h : ∀ out : List Value, out.Perm vs → P (.done (.ret .none)) { s with heap := sortedHeap s.heap a vs out.toArray }) : wpAny (model prog w) A (Builtin.«list.sort» ⟨[.ref a], []⟩) P E s := by
  rw [list_sort_plain]
  have ha : a < s.heap.objs.size := Heap.lt_size ho
  refine wpAny_bind (listItems_at ho rfl ?_)
  refine wpAny_bind (listUpdate_at ho rfl ?_ (by rw [List.size_toArray, sizeLine_eq]; exact ar335 h3) (Nat.zero_le _))
  obtain ⟨e1, ho1⟩ : ∃ e1, (s.heap.update a (Obj.mapSeq fun _ => (#[] : Array Value))).get? a = some (seqObj "list" #[] e1) := ⟨_, get?_update_seq ho (fun _ => #[])⟩
  refine wpAny_bind (seqEpoch_at ho1 rfl ?_)
  refine wpAny_bind (wpAny_newTuple ?_ (by show vs.length ≤ _; rw [sizeLine_eq]; exact ar335 h3))
  refine wpAny_bind (wpAny_newList ?_ (Nat.zero_le _))
  refine wpAny_holding ?_
  have ho6 : (((s.heap.update a (Obj.mapSeq fun _ => (#[] : Array Value))).push (seqObj "tuple" vs.toArray 0)).push (seqObj "list" #[] 0)).get? a = some (seqObj "list" #[] e1) := by
    rw [Heap.get?_push_ne _ _ _ (by rw [size_push', Heap.size_update]; exact Nat.ne_of_lt (Nat.lt_succ_of_lt ha)), Heap.get?_push_ne _ _ _ (by rw [Heap.size_update]; exact Nat.ne_of_lt ha)]
    exact ho1
  have im6 : Imm s.heap (((s.heap.update a (Obj.mapSeq fun _ => (#[] : Array Value))).push (seqObj "tuple" vs.toArray 0)).push (seqObj "list" #[] 0)) := fun b o m e => by
    have hb : b ≠ a := by rintro rfl; rw [ho] at e; cases e; exact notIm_list m
    exact Heap.get?_push_of_some _ (Heap.get?_push_of_some _ (by rw [Heap.get?_update_ne _ _ _ _ hb]; exact e))
  show wpAny (model prog w) A _ P E { s with heap := ((s.heap.update a (Obj.mapSeq fun _ => (#[] : Array Value))).push (seqObj "tuple" vs.toArray 0)).push (seqObj "list" #[] 0) }
  dsimp only
  have fin : ∀ st' : SortSt, ∀ out : List Value, (arrOf st').map (·.2) = out.toArray → out.Perm vs → P (.done (.ret .none)) { s with heap := sortedHeap s.heap a vs ((arrOf st').map (·.2)) } := by
    intro st' out e hp
    rw [e]; exact h out hp
  by_cases h2 : vs.toArray.size < 2
  · rw [if_pos h2, if_pos h2]
    refine wpAny_bind (wpAny_pure ?_)
    rw [StateT.run_pure]
    refine wpAny_bind (wpAny_pure ?_)
    dsimp only
    have e0 : (arrOf (SortSt.mk' general' (vs.toArray.zip vs.toArray) #[] 7 none)).map (·.2) = vs.toArray := by
      show (vs.toArray.zip vs.toArray).map (·.2) = vs.toArray
      apply Array.toList_inj.mp
      simp [List.map_snd_zip]
    refine wpAny_bind (seqEpoch_at ho6 rfl ?_)
    refine wpAny_bind (listUpdate_at ho6 rfl ?_ (Nat.zero_le _) (by rw [e0, List.size_toArray, sizeLine_eq]; exact ar336 h3))
    simp only [bne_self_eq_false, Bool.false_eq_true, if_false]
    exact wpAny_pure (fin _ vs e0 (List.Perm.refl _))
  · rw [if_neg h2, if_neg h2]
    have h2' : 2 ≤ vs.length := by rw [List.size_toArray] at h2; exact ar337 h2
    have rv6 := rv.mono im6
    obtain ⟨fs, kt, kl, ki⟩ := t3_tups rv6
    refine wpAny_bind (kat_kind (s := { s with heap := ((s.heap.update a (Obj.mapSeq fun _ => (#[] : Array Value))).push (seqObj "tuple" vs.toArray 0)).push (seqObj "list" #[] 0) }) (T := .type "int") kt (by exact ar338 h2' kl) (fun v hv => by obtain ⟨i, t, rfl⟩ := ki v hv; exact Looks.of_pure rfl) (by decide) ?_)
    rw [show (Value.type "int" != Value.type "tuple") = true from by decide]
    have hsort : okB vs.length (kas_sort vs.length) = true := by
      have : vs.length = 2 ∨ vs.length = 3 := by exact ar339 h3 h2'
      rcases this with e | e <;> rw [e]
      · exact ok2
      · exact ok3
    refine wpAny_bind (wpAny_mono (kat_run (Q := fun st' s' => ∃ p : Array Nat, p.size = vs.length ∧ arrOf st' = p.map (kas_item (vs.toArray.zip vs.toArray)) ∧ failedOf st' = none ∧ p.toList.Perm (List.range vs.length) ∧ s' = { s with heap := ((s.heap.update a (Obj.mapSeq fun _ => (#[] : Array Value))).push (seqObj "tuple" vs.toArray 0)).push (seqObj "list" #[] 0) })
      (G := fun p s' => p.toList.Perm (List.range vs.length) ∧ s' = { s with heap := ((s.heap.update a (Obj.mapSeq fun _ => (#[] : Array Value))).push (seqObj "tuple" vs.toArray 0)).push (seqObj "list" #[] 0) })
      rfl h2' (by exact ar340 h3) (fun p' st' s' a1 a2 a3 a4 => ⟨p', a1, a2, a3, a4⟩) (kas_any (fun i j C hi hj hC => ?_) (fun p hp => ⟨hp, rfl⟩) _ hsort)) ?_ fun _ _ e => e)
    · unfold kas_ask
      have hi' : vs.getD i Value.none = vs[i] := by simp [hi]
      have hj' : vs.getD j Value.none = vs[j] := by simp [hj]
      rw [hi', hj']
      obtain ⟨x, hx, rx⟩ := rv6.mem vs[i] (List.getElem_mem hi)
      obtain ⟨z, hz, rz⟩ := rv6.mem vs[j] (List.getElem_mem hj)
      obtain ⟨t, _, rfl⟩ := List.mem_map.mp hx
      obtain ⟨u, _, rfl⟩ := List.mem_map.mp hz
      exact t3_lt rx rz hC
    · rintro ⟨⟨⟩, st'⟩ s' ⟨p, hp, har, hf, hperm, rfl⟩
      dsimp only
      have hout := kat_snds (ks := vs) (vs := vs) rfl har
      have hpp := perm_pick hperm
      refine wpAny_bind (seqEpoch_at ho6 rfl ?_)
      refine wpAny_bind (listUpdate_at ho6 rfl ?_ (Nat.zero_le _) (by rw [hout, List.size_toArray, hpp.length_eq, sizeLine_eq]; exact ar336 h3))
      rw [hf]
      simp only [bne_self_eq_false, Bool.false_eq_true, if_false]
      exact wpAny_pure (fin st' _ hout hpp)
end
section
variable {y : Sy} {n : Nat} {σ : St} {Q : V → St → Prop}
theorem C_sortedKD {a : Addr} {ts : List T3} (e : σ a = some (kd3 ts)) (lo : (a == sysModules) = false) (hz : ts.length ≤ 3) (h : ∀ (b : Addr) (ts' : List T3), σ b = none → (∀ t, t ∈ ts' ↔ t ∈ ts) → ts'.length ≤ 3 → Q (.val (.ref b)) (σ.put b (.list (ts'.map t3v)))) : CallV y n σ (.builtin "sorted") [.val (.ref a)] Q := fun A hA s vs I r E => by
  cases r with
  | cons r1 r2 =>
    cases r1; cases r2
    obtain ⟨o, ho, hc, es, ep, hd, rk⟩ := I.obj _ _ e
    have kl := rk.length
    rw [List.length_map, List.length_map, Array.length_toList] at kl
    refine Calls.call_function_entry kind_sorted plain_sorted entry_sorted (args_sorted1 _) ?_
    unfold Builtin.«sorted»
    refine wpAny_bind (m := checkCount "sorted" 1 1 _) (wpAny_pure ?_)
    refine wpAny_bind (kdu_collect (rawSrc lo hc hd) hA.hd ho (by rw [sizeLine_eq]; exact ar341 hz kl) fun h' tk acc hk hacc => ?_)
    have eacc : acc.toList = es.toList.map (·.key) := by
      apply List.ext_getElem?
      intro i
      by_cases hi : i < es.size
      · have hi' : i < acc.size := by rw [hacc.1]; exact hi
        have := hacc.2 i acc[i] (by simp [hi'])
        rw [this]; simp [hi']
      · rw [List.getElem?_eq_none (by rw [Array.length_toList, hacc.1]; exact ar4 hi), List.getElem?_eq_none (by simp; exact ar4 hi)]
    obtain ⟨I₁, K₁⟩ := grow I hk
    have rk₁ := rk.keep I K₁
    rw [← eacc] at rk₁
    have al : acc.toList.length = ts.length := by rw [eacc, List.length_map, Array.length_toList]; assumption
    refine wpAny_bind (wpAny_newList ?_ (by rw [al, sizeLine_eq]; exact ar335 hz))
    have hoL : (h'.push (seqObj "list" acc.toList.toArray 0)).get? h'.objs.size = some (seqObj "list" acc.toList.toArray 0) := Heap.get?_push_size _ rfl
    refine wpAny_bind (wpAny_holding (wpAny_call_entry slot_list_sort ⟨_, hoL, rfl⟩ entry_list_sort (t3_sort (s := sw s (h'.push (seqObj "list" acc.toList.toArray 0)) tk) hoL (by exact ar343 hz al) (rk₁.mono fun b o _ e => Heap.get?_push_of_some _ e) fun out hp => ⟨_, rfl, ?_⟩) (args_list_sort _)))
    refine wpAny_pure ⟨_, rfl, ?_⟩
    have hlt : ∀ b o, h'.get? b = some o → b ≠ h'.objs.size := fun b o e => Nat.ne_of_lt (Heap.lt_size e)
    have old : ∀ b o, h'.get? b = some o → (sortedHeap (h'.push (seqObj "list" acc.toList.toArray 0)) h'.objs.size acc.toList out.toArray).get? b = some o := fun b o e => by
      rw [sortedHeap_old (hlt b o e) (by rw [Heap.size_push]; exact Nat.lt_succ_of_lt (Heap.lt_size e))]
      exact Heap.get?_push_of_some _ e
    obtain ⟨c, hc'⟩ := sortedHeap_at (out := out.toArray) hoL
    obtain ⟨ts', rt, hm⟩ := repL_perm rk₁ (out := out) fun v hv => hp.mem_iff.mp hv
    have hl' : ts'.length ≤ 3 := by have := rt.length; rw [List.length_map, hp.length_eq] at this; exact ar344 hz al this
    have hm' : ∀ t, t ∈ ts' ↔ t ∈ ts := fun t => ⟨hm t, fun ht => by
      obtain ⟨i, hi⟩ := List.mem_iff_getElem?.mp ht
      obtain ⟨v, ev, rv⟩ := rk₁.get (j := i) (u := t3v t) (by rw [List.getElem?_map, hi]; rfl)
      have hv : v ∈ out := hp.mem_iff.mpr (List.mem_of_getElem? ev)
      obtain ⟨x, hx, rx⟩ := rt.mem v hv
      obtain ⟨u, hu, rfl⟩ := List.mem_map.mp hx
      rw [t3v_fun rv rx]; exact hu⟩
    obtain ⟨I₂, K₂, fr⟩ := pushAs (x := .list (ts'.map t3v)) I₁ old hc' fun k => ⟨out, c, rfl, rt.mono k⟩
    exact ⟨_, _, _, rfl, I₂, K₁.trans0 K₂, _, .val _, h _ ts' fr hm' hl'⟩
end
end Mine
end
section
open PySem PySem.W PySem.Calls PyProof.Rows
set_option maxRecDepth 100000
set_option linter.unusedVariables false
namespace Mine
section
variable {y : Sy} {n : Nat} {env : Env} {ρ : Env1} {σ : St} {Q : V → St → Prop}
theorem E_chain2 {l r1 r2 : Expr} {op1 op2 : CmpOp} {pos : Pos} (h : EV y n env ρ σ l fun a σ₁ => EV y n env ρ σ₁ r1 fun b σ₂ => O2 y n σ₂ (compareOp op1) a b fun x σ₃ => ∃ c, x = .val (.bool c) ∧
      (c = true → EV y n env ρ σ₃ r2 fun d σ₄ => O2 y n σ₄ (compareOp op2) b d Q) ∧ (c = false → Q (.val (.bool false)) σ₃))
    (he : eval (.Compare l [op1, op2] [r1, r2] pos) env = (do
      let v ← eval l env
      compareChain pos v [op1, op2] [eval r1 env, eval r2 env]) := by rfl) : EV y n env ρ σ (.Compare l [op1, op2] [r1, r2] pos) Q :=
  fun A hA s I F E => by
    rw [he]
    refine wpAny_bind ((h A hA s I F).use ?_)
    rintro a h₁ tk σ₁ I₁ K₁ ⟨xa, ra, q⟩
    show wpAny _ A (do
      let rv ← holding [a] (eval r1 env)
      standAt pos
      let c ← holding [a, rv] (compareOp op1 a rv)
      release [a, rv] [c]
      if ← holding [c, rv] (truthy c) then compareChain pos rv [op2] [eval r2 env] else pure c) _ _ _
    refine wpAny_bind (wpAny_holding ((q A hA _ I₁ (F.keep I K₁)).use ?_))
    rintro b h₂ tk₂ σ₂ I₂ K₂ ⟨xb, rb, q⟩
    refine wpAny_bind (wpAny_standAt (wpAny_bind (wpAny_holding ((q A hA _ a b I₂ (ra.keep I₁ K₂) rb).use ?_))))
    rintro v h₃ tk₃ σ₃ I₃ K₃ ⟨x, rv, c, rfl, q1, q2⟩
    cases rv
    refine wpAny_bind (wpAny_release (wpAny_bind (wpAny_holding (wpAny_truthy_bool ?_))))
    cases c with
    | false => exact wpAny_pure ⟨h₃, tk₃, σ₃, rfl, I₃, (K₁.trans0 K₂).trans0 K₃, _, .val _, q2 rfl⟩
    | true =>
      show wpAny _ A (do
        let rv ← holding [b] (eval r2 env)
        standAt pos
        operate [b, rv] (compareOp op2 b rv)) _ _ _
      refine wpAny_bind (wpAny_holding ((q1 rfl A hA _ I₃ (((F.keep I K₁).keep I₁ K₂).keep I₂ K₃)).use ?_))
      rintro d h₄ tk₄ σ₄ I₄ K₄ ⟨xd, rd, q⟩
      refine wpAny_bind (wpAny_standAt (wpAny_operating ((q A hA _ b d I₄ ((rb.keep I₂ K₃).keep I₃ K₄) rd).use ?_)))
      rintro v h₅ tk₅ σ₅ I₅ K₅ q
      exact ⟨h₅, tk₅, σ₅, rfl, I₅, (((K₁.trans0 K₂).trans0 K₃).trans0 K₄).trans0 K₅, q⟩
end
end Mine
end
section
open PySem PySem.W PySem.Calls PyProof.Rows
set_option maxRecDepth 100000
set_option linter.unusedVariables false
namespace Mine
noncomputable def lt3 (l : Lit) : T3 := (l.1, l.2.1.s, l.2.2)
theorem Sg.s_inj : ∀ {a b : Sg}, a.s = b.s → a = b := by
  intro a b
  cases a <;> cases b <;> first | (intro _; rfl) | (intro h; exact absurd h (by decide))
theorem lt3_inj {a b : Lit} (h : lt3 a = lt3 b) : a = b := by
  obtain ⟨a1, a2, a3⟩ := a
  obtain ⟨b1, b2, b3⟩ := b
  unfold lt3 at h
  simp only [Prod.mk.injEq] at h
  obtain ⟨h1, h2, h3⟩ := h
  rw [h1, h3, Sg.s_inj h2]
theorem lits_of {ts : List T3} {ls : List Lit} (h : ∀ t ∈ ts, t ∈ ls.map lt3) : ∃ r : List Lit, ts = r.map lt3 := by
  induction ts with
  | nil => exact ⟨[], rfl⟩
  | cons t ts ih =>
    obtain ⟨r, e⟩ := ih fun z hz => h z (.tail _ hz)
    obtain ⟨l, _, e'⟩ := List.mem_map.mp (h t (.head _))
    exact ⟨l :: r, by rw [e, ← e']; rfl⟩
section
variable {y : Sy} {n : Nat} {σ : St} {Q : V → St → Prop} {env : Env} {W : Str → Prop} {ρ : Env1} {a : Addr} {c : SC} {S : SS}
theorem has3 (H : Says y.B) : ∃ o, y.B.get? 3 = some o := by
  obtain ⟨mg, mb, G, _⟩ := gl H
  obtain ⟨o, _, _, ho, _⟩ := G.g
  exact ⟨o, ho⟩
theorem once_each_ok (H : Says y.B) {b : Addr} {ls : List Lit} (e : σ b = some (.list (ls.map lv))) (hz : ls.length ≤ 3) (h : ∀ (r : List Lit) σ', σ.Le σ' → (∀ l, l ∈ r ↔ l ∈ ls) → r.length ≤ 3 → Q (.tup (r.map lv)) σ') : CallK y (n + 1) σ (.ref 314) [.val (.ref b)] Q := by
  refine K_fn (F_once_each H) (by kernel_rfl) rfl fun env he => ?_
  refine XS_cons (X_ret ?_)
  refine E_fcall he (bltFact H (k := 4) (by rfl) (by rfl)) (keeps_type _ _) ?_
  refine E_fcall he (bltFact H (k := 6) (by rfl) (by rfl)) (keeps_builtin _ _) ?_
  have em : ls.map lv = (ls.map lt3).map t3v := by rw [List.map_map]; rfl
  refine E_dictTrue (has3 H) (sck he) (by rfl) (E_var he rfl ⟨ls.map lt3, ?_, by simp; exact ar314 hz, fun d ts' hd lo hm hl => ?_⟩)
  · show Lst y σ b _
    rw [← em]; exact .of e
  · refine C_sortedKD (St.put_self ..) lo (by simp at hl; exact ar315 hz hl) fun q ts'' hq hm' hl' => ?_
    refine C_tuple_list (.of (St.put_self ..)) (by simp; exact ar61 hl') ?_
    obtain ⟨r, er⟩ := lits_of (ts := ts'') (ls := ls) fun t ht => (hm t).mp ((hm' t).mp ht)
    subst er
    have eq : (r.map lt3).map t3v = r.map lv := by rw [List.map_map]; rfl
    rw [eq]
    refine h r _ ((St.Le.put hd).trans (St.Le.put hq)) (fun l => ?_) (by simpa using hl')
    have := (hm' (lt3 l)).trans (hm (lt3 l))
    constructor
    · intro hl
      obtain ⟨l', hl', e'⟩ := List.mem_map.mp (this.mp (List.mem_map_of_mem hl))
      rw [← lt3_inj e']; exact hl'
    · intro hl
      obtain ⟨l', hl', e'⟩ := List.mem_map.mp (this.mpr (List.mem_map_of_mem hl))
      rw [← lt3_inj e']; exact hl'

noncomputable def lowD (D : Dom) : Int := (D.headD (0, 0)).1
noncomputable def highD (D : Dom) : Int := (D.getLastD (0, 0)).2
noncomputable def lackD (F D : Dom) (x : Int) (v : Int) : List Lit :=
  if hasD F v = false then [] else if v < lowD D then [(x, .ge, v + 1)] else if highD D < v then [(x, .le, v - 1)] else [(x, .ne, v)]
theorem lackD_len (F D : Dom) (x v : Int) : (lackD F D x v).length ≤ 1 := by
  unfold lackD; split
  · simp
  · split
    · simp
    · split <;> simp
theorem lacking_ok (H : Says y.B) (A : SA σ a c S) (hz : S.doms.length ≤ 1000) (hzf : S.firsts.length ≤ 1000) {x : Nat} (hx : x < S.doms.length) (hxf : x < S.firsts.length) (hs : Small S.doms[x]) (hne : S.doms[x] ≠ []) {v : Int}
    (h : ∀ b, σ b = none → Q (.val (.ref b)) (σ.put b (.list ((lackD S.firsts[x] S.doms[x] x v).map lv)))) : CallK y (n + 3) σ (.ref 309) [.val (.ref a), .int x, .int v] Q := by
  refine K_fn (F_lacking H) (by kernel_rfl) rfl fun env he => ?_
  unfold lackD at h
  obtain ⟨p, D, eD⟩ := List.exists_cons_of_ne_nil hne
  refine XS_cons (X_if (B_not (B_val (E_fcall he (globFact H (k := 30) (by rfl) (by rfl)) (F_has H).keeps ?_))))
  refine E_smeth H (E_var he (u := .val (.ref a)) rfl ⟨rfl, A, E_var he (u := .int x) rfl ?_⟩) (F_s_initial H).keeps
  refine CallK.v (s_initial_ok H A hzf hxf (E_var he (u := .int v) rfl (CallK.v (has_ok H ⟨_, rfl, fun hc => ?_, fun hc => XS_nil ?_⟩))))
  · have hc : hasD S.firsts[x] v = false := by simpa using hc
    rw [if_pos hc] at h
    exact XS_cons (X_ret (E_list ⟨by simp, fun b hb => h b hb⟩))
  have hc : ¬ hasD S.firsts[x] v = false := by simpa using hc
  rw [if_neg hc] at h
  refine XS_cons (X_if (B_compare (E_var he (u := .int v) rfl (E_smeth H (E_var he (u := .val (.ref a)) rfl ⟨rfl, A, E_var he (u := .int x) rfl ?_⟩) (F_s_low H).keeps))))
  have el : lowD S.doms[x] = p.1 := by unfold lowD; rw [eD]; rfl
  refine CallK.v (s_low_ok H A hz hx eD (eD ▸ hs) (O2_lt ⟨_, rfl, fun h1 => ?_, fun h1 => XS_nil ?_⟩))
  · have h1 := of_decide_eq_true h1
    rw [el, if_pos h1] at h
    exact XS_cons (X_ret (E_list (E_tuple (E_var he (u := .int x) rfl (E_str (E_binop (E_var he (u := .int v) rfl (E_int (O2_add ⟨by simp, by simp, fun b hb => h b hb⟩)))))))))
  have h1 := of_decide_eq_false h1
  rw [el, if_neg h1] at h
  have eL : S.doms[x] = S.doms[x].dropLast ++ [S.doms[x].getLast hne] := (List.dropLast_concat_getLast hne).symm
  have eh : highD S.doms[x] = (S.doms[x].getLast hne).2 := by unfold highD; rw [List.getLastD_eq_getLast?, List.getLast?_eq_some_getLast hne]; rfl
  refine XS_cons (X_if (B_compare (E_var he (u := .int v) rfl (E_smeth H (E_var he (u := .val (.ref a)) rfl ⟨rfl, A, E_var he (u := .int x) rfl ?_⟩) (F_s_high H).keeps))))
  refine CallK.v (s_high_ok H A hz hx eL (eL ▸ hs) (O2_gt ⟨_, rfl, fun h2 => ?_, fun h2 => XS_nil ?_⟩))
  · have h2 := of_decide_eq_true h2
    rw [eh, if_pos h2] at h
    exact XS_cons (X_ret (E_list (E_tuple (E_var he (u := .int x) rfl (E_str (E_binop (E_var he (u := .int v) rfl (E_int (O2_sub ⟨by simp, by simp, fun b hb => h b hb⟩)))))))))
  have h2 := of_decide_eq_false h2
  rw [eh, if_neg h2] at h
  exact XS_cons (X_ret (E_list (E_tuple (E_var he (u := .int x) rfl (E_str (E_var he (u := .int v) rfl ⟨by simp, by simp, fun b hb => h b hb⟩))))))

noncomputable def natVs (l : List Nat) : List V := l.map fun (x : Nat) => V.int (x : Int)
noncomputable def roomS (S : SS) (l : List Nat) : Int := (l.map fun x => sizeD (S.doms.getD x [])).sum
theorem room_ok (H : Says y.B) (A : SA σ a c S) (hz : S.doms.length ≤ 1000) {l : List Nat} (hl : l.length ≤ 1000) (hx : ∀ x ∈ l, x < S.doms.length) (hs : ∀ D ∈ S.doms, Small D)
    (h : ∀ σ', σ.Le σ' → Q (.int (roomS S l)) σ') : CallK y (n + 3) σ (.ref 319) [.val (.ref a), .tup (natVs l)] Q := by
  refine K_fn (F_room H) (by kernel_rfl) rfl fun env he => ?_
  refine XS_cons (X_ret ?_)
  refine E_fcall he (bltFact H (k := 0) (by rfl) (by rfl)) (keeps_builtin _ _) (E_comp1 (sck he) (E_var he rfl ⟨natVs l, fun cenv hc => ?_⟩))
  have hc := relabel_S he hc
  refine CL_pure (src := .tup (natVs l)) (all := natVs l) (σ₀ := σ) (p := fun _ => true) (F := fun x v _ => ∃ i : Nat, x = .int i ∧ v = .int (sizeD (S.doms.getD i []))) (fun ρ => ρ "store" = some (.val (.ref a))) (fun x ρ => ρ "x" = some x) (fun _ _ => rfl) (fun x v σ' σ'' h _ => h) _ ?_ ?_ ?_ [] _ σ rfl (.refl _) (by simp [natVs]; exact ar8 hl) ?_
  · intro x hx ρ σ' R hJ hl hR
    exact T_var hc (hR _ (by rw [upd_ne (by decide)]; exact hJ) (upd_self ..)) (fun h => by cases h)
  · intro x hx ρ σ' B hJ hG hl hB
    exact hB σ' (.refl _)
  · intro x hxm ρ σ' Q hJ hG _ hl hQ
    obtain ⟨i, hi, rfl⟩ := List.mem_map.mp hxm
    have hi' := hx i hi
    refine E_smeth H (E_var hc (u := .val (.ref a)) hJ ⟨rfl, A.le hl, E_var hc (u := .int i) hG ?_⟩) (F_s_width H).keeps
    refine CallK.v (s_width_ok H (A.le hl) hz hi' (hs _ (List.getElem_mem hi')) fun σ'' l' => hQ _ σ'' l' ⟨i, rfl, ?_⟩)
    simp [hi']
  · intro vs ρ' σ'' _ l' hlen hvs b hb
    have ev : vs = intVs (l.map fun x => sizeD (S.doms.getD x [])) := by
      have e0 : (natVs l).filter (fun _ => true) = natVs l := List.filter_eq_self.mpr fun _ _ => rfl
      rw [e0] at hlen hvs
      apply List.ext_getElem?
      intro j
      by_cases hj : j < l.length
      · obtain ⟨v, e1, i, e2, e3⟩ := hvs j (.int (l[j] : Int)) (by simp [natVs, hj])
        rw [e1, e3]
        have : i = l[j] := by injection e2 with e2; exact ar82 e2
        subst this
        simp [intVs, hj]
      · rw [List.getElem?_eq_none (by rw [hlen]; simp [natVs]; exact ar4 hj), List.getElem?_eq_none (by simp [intVs]; exact ar4 hj)]
    rw [List.nil_append, ev]
    exact C_sum (.of (St.put_self ..)) (h _ (l'.trans (St.Le.put hb)))
end
end Mine
end
section
open PySem PySem.W PySem.Calls PyProof.Rows
set_option maxRecDepth 100000
set_option linter.unusedVariables false
namespace Mine
noncomputable def cellsL (m : Nat) : List Nat := (List.range m).map (· + 1)
noncomputable def scopeL (m : Nat) : List Nat := List.range (m + 2)
noncomputable def eattr (m : Nat) (x : Str) : Option V :=
  if x = "number" then some (.int (-1)) else if x = "scope" then some (.tup (natVs (scopeL m))) else if x = "strength" then some (.str "values") else if x = "index" then some (.int ((0 : Nat) : Int)) else
  if x = "cells" then some (.tup (natVs (cellsL m))) else if x = "z" then some (.int ((m + 1 : Nat) : Int)) else none
structure EA (σ : St) (e d : Addr) (m : Nat) : Prop where
  inst : σ e = some (.inst 392 d)
  att : σ d = some (.attrs 6 (eattr m))
theorem EA.le {σ σ' : St} {e d : Addr} {m : Nat} (x : EA σ e d m) (l : σ.Le σ') : EA σ' e d m := ⟨l _ _ x.inst, l _ _ x.att⟩
structure EA' (σ : St) (e d : Addr) (m : Nat) (a : Addr) (c : SC) : Prop extends EA σ e d m where
  ne : e ∉ own a c
  nd : d ∉ own a c
theorem EA'.le {σ σ' : St} {e d : Addr} {m : Nat} {a : Addr} {c : SC} (x : EA' σ e d m a c) (l : σ.Le σ') : EA' σ' e d m a c := ⟨x.toEA.le l, x.ne, x.nd⟩
theorem EA'.fr {σ σ' : St} {e d : Addr} {m : Nat} {a : Addr} {c c' : SC} (x : EA' σ e d m a c) (l : Fr a c σ c' σ') : EA' σ' e d m a c' :=
  ⟨⟨(l _ _ x.ne x.inst).1, (l _ _ x.nd x.att).1⟩, (l _ _ x.ne x.inst).2, (l _ _ x.nd x.att).2⟩
section
variable {y : Sy} {n : Nat} {σ : St} {Q : V → St → Prop} {env : Env} {W : Str → Prop} {ρ : Env1} {e d : Addr} {m : Nat}
theorem clsE (H : Says y.B) : ∃ K : Frag, K.In y.B ∧ ClsF K 392 ∧ makesIn K 392 = true ∧ keepIn K (.ref 392) = true ∧ (∀ x ∈ elemAttrs, findIn K (.ref 392) x = some none) ∧
    (∀ p ∈ elemMeths, findIn K (.ref 392) p.1 = some (some (.ref p.2)) ∧ typeIn K (.ref p.2) = some (.type "function")) ∧ superOk K = true := by
  obtain ⟨K, X, e⟩ := kFact H
  unfold kOk at e
  simp only [Bool.and_eq_true] at e
  obtain ⟨⟨⟨⟨⟨⟨_, e2⟩, _⟩, _⟩, e5⟩, e6⟩, e7⟩ := e
  unfold clsOk at e2
  simp only [Bool.and_eq_true, decide_eq_true_eq] at e2
  obtain ⟨⟨⟨⟨⟨⟨a1, a2⟩, a3⟩, a4⟩, a5⟩, a6⟩, a7⟩ := e2
  refine ⟨K, X, ⟨a1, a2, a3, a4, a5⟩, a6, a7, fun x hx => ?_, fun p hp => ?_, e7⟩
  · exact of_decide_eq_true (List.all_eq_true.mp e5 x hx)
  · have := List.all_eq_true.mp e6 p hp
    simpa using this
theorem eattr_mem {x : Str} {u : V} (h : eattr m x = some u) : x ∈ elemAttrs := by
  unfold eattr at h
  repeat' split at h
  all_goals first | (subst_vars; decide) | cases h
theorem eattr_none {x : Str} (h : x ∉ elemAttrs) : eattr m x = none := by
  cases e : eattr m x with
  | none => rfl
  | some u => exact absurd (eattr_mem e) h
structure KEA (e d : Addr) (m : Nat) (Q : V → St → Prop) (u x : V) (σ' : St) : Prop where
  i : x = .val (.ref e)
  A : EA σ' e d m
  q : Q u σ'
structure KEM (y : Sy) (n : Nat) (env : Env) (ρ : Env1) (e d : Addr) (m : Nat) (f₀ : Addr) (args : List Expr) (Q : V → St → Prop) (x : V) (σ₁ : St) : Prop where
  i : x = .val (.ref e)
  A : EA σ₁ e d m
  q : EVs y n env ρ args (kCallM y n f₀ e Q) σ₁
theorem E_eattr (H : Says y.B) {o : Expr} {name : Str} {pos : Pos} {u : V} (h : EV y n env ρ σ o (KEA e d m Q u)) (hu : eattr m name = some u) (hh : u.handed = true := by rfl)
    (he : eval (.Attribute o name pos) env = (do
      let x ← eval o env
      standAt pos.atName
      let r ← holding [x] (getAttr x name true)
      letTemporaryGo o x r
      pure r) := by with_unfolding_all rfl) : EV y n env ρ σ (.Attribute o name pos) Q := by
  obtain ⟨K, X, hc, _, _, ha, _⟩ := clsE H
  exact E_attr X hc (h.mono fun x σ' ⟨e', A, q⟩ => ⟨e, d, 6, _, u, e', A.inst, A.att, hu, hh, q⟩) (ha _ (eattr_mem hu)) he
theorem E_emeth (H : Says y.B) {o : Expr} {name : Str} {f₀ : Addr} {apos pos : Pos} {args : List Expr} (h : EV y n env ρ σ o (KEM y n env ρ e d m f₀ args Q))
    (hk : Keeps y (.ref f₀)) (hm : (name, f₀) ∈ elemMeths := by decide) (hn : name ∉ elemAttrs := by decide) (hbase : attributeBase o name env (eval o env) = eval o env := by rfl) (hline : (apos.endLine == pos.line) = true := by rfl) (hlen : decide (args.length < 30) = true := by rfl) (hs : args.all plainE = true := by rfl) :
    EV y n env ρ σ (.Call (.Attribute o name apos) args [] pos) Q := by
  obtain ⟨K, X, hc, _, _, _, hms, _⟩ := clsE H
  obtain ⟨m1, m2⟩ := hms _ hm
  exact E_method (h.mono fun x σ' ⟨e', A, q⟩ => ⟨.ref f₀, [.val (.ref e)], by subst e'; exact G_inst X hc A.inst A.att m1 m2 (eattr_none hn), hk, q⟩) hbase hline hlen hs
theorem e_told_ok (H : Says y.B) (A : EA σ e d m) (h : Q (.tup [.str "element", .int ((0 : Nat) : Int), .tup (natVs (cellsL m)), .int ((m + 1 : Nat) : Int)]) σ) : CallK y (n + 1) σ (.ref 342) [.val (.ref e)] Q := by
  refine K_fn (F_e_told H) (by kernel_rfl) rfl fun env he => ?_
  refine XS_cons (X_ret (E_tuple (E_str ?_)))
  refine E_eattr H (E_var he rfl ⟨rfl, A, ?_⟩) rfl
  refine E_eattr H (E_var he rfl ⟨rfl, A, ?_⟩) rfl
  exact E_eattr H (E_var he rfl ⟨rfl, A, by simp, h⟩) rfl
noncomputable def isAns (p : List Int) : Bool := decide (1 ≤ p.headD 0) && decide (p.headD 0 ≤ (p.length : Int) - 2) && (p.getD (p.headD 0).toNat 0 == p.getLastD 0)
noncomputable abbrev ptv (p : List Int) : V := .tup (intVs p)
theorem item_pt {p : List Int} {i : Nat} (hz : p.length ≤ 1000) (hi : i < p.length) : Item y σ (ptv p) (.int i) (.int (p.getD i 0)) :=
  item0 (j := i) (by simp [intVs]; exact ar8 hz) (by rw [seqIndex_pos (by exact ar9) (by simp [intVs]; assumption)]; simp) (by simp [intVs, hi])
theorem item_last {p : List Int} (hz : p.length ≤ 1000) (hp : 0 < p.length) : Item y σ (ptv p) (.int (-1)) (.int (p.getLastD 0)) := by
  refine item0 (j := p.length - 1) (by simp [intVs]; exact ar8 hz) (by rw [seqIndex_neg (by exact ar11) (by simp [intVs]; exact ar12 hp)]; simp [intVs]; exact ar13) ?_
  rw [List.getLastD_eq_getLast?, List.getLast?_eq_getElem?]
  have hp' : p.length - 1 < p.length := by exact ar14 hp
  simp [intVs, hp']
theorem pt_head {p : List Int} (h : 0 < p.length) : p.getD 0 0 = p.headD 0 := by cases p <;> simp at h ⊢
theorem e_check_ok (H : Says y.B) {p : List Int} (hz : p.length ≤ 1000) (hp : 2 ≤ p.length) (h : Q (.val (.bool (isAns p))) σ) : CallK y (n + 1) σ (.ref 349) [.val (.ref e), ptv p] Q := by
  refine K_fn (F_e_check H) (by kernel_rfl) rfl fun env he => ?_
  have e0 := pt_head (p := p) (by exact ar15 hp)
  refine XS_cons (X_ret (E_and2 (E_chain2 (E_int (E_sub (E_var he (u := ptv p) rfl (E_int ⟨_, item_pt (i := 0) hz (by exact ar15 hp), O2_lt ⟨_, rfl, fun h1 => ?_, fun h1 => ?_⟩⟩)))))))
  · refine E_binop (E_fcall he (bltFact H (k := 5) (by rfl) (by rfl)) (keeps_builtin _ _) (E_var he (u := ptv p) rfl (C_len_tup (by simp [intVs]; exact ar8 hz) (E_int (O2_sub (O2_lt ⟨_, rfl, fun h2 => ?_, fun h2 => ?_⟩))))))
    · have h1 := of_decide_eq_true h1
      have h2 := of_decide_eq_true h2
      rw [e0] at h1 h2
      rw [show (intVs p).length = p.length from by simp [intVs]] at h2
      refine E_compare (E_sub (E_var he (u := ptv p) rfl (E_sub (E_var he (u := ptv p) rfl (E_int ⟨_, item_pt (i := 0) hz (by exact ar15 hp), ?_⟩)))))
      obtain ⟨i, hi⟩ := Int.eq_ofNat_of_zero_le (a := p.headD 0) (by exact ar16 h1)
      rw [e0, hi]
      have hil : i < p.length := by exact ar17 h2 hi
      refine ⟨_, item_pt hz hil, E_sub (E_var he (u := ptv p) rfl (E_unary (E_int (O1_neg ⟨_, item_last hz (by exact ar15 hp), O2_eqi ?_⟩))))⟩
      have : isAns p = (p.getD i 0 == p.getLastD 0) := by
        unfold isAns
        rw [hi]
        have a1 : decide (1 ≤ (i : Int)) = true := decide_eq_true (by exact ar18 h1 hi)
        have a2 : decide ((i : Int) ≤ (p.length : Int) - 2) = true := decide_eq_true (by exact ar19 h2 hi)
        rw [a1, a2]; simp
      rw [← this]; exact h
    · have h2 := of_decide_eq_false h2
      rw [e0] at h2
      rw [show (intVs p).length = p.length from by simp [intVs]] at h2
      have : isAns p = false := by
        unfold isAns
        have a2 : decide (p.headD 0 ≤ (p.length : Int) - 2) = false := decide_eq_false (by exact ar20 h2)
        rw [a2]; simp
      rw [this] at h; exact h
  · have h1 := of_decide_eq_false h1
    rw [e0] at h1
    refine ⟨_, rfl, fun h => absurd h (by decide), fun _ => ?_⟩
    have : isAns p = false := by
      unfold isAns
      have a2 : decide (1 ≤ p.headD 0) = false := decide_eq_false (by assumption)
      rw [a2]; simp
    rw [this] at h; exact h
theorem law_is_answer_ok (H : Says y.B) {p : List Int} (hz : p.length ≤ 1000) (hp : 2 ≤ p.length) (h : Q (.val (.bool (isAns p))) σ) : CallK y (n + 1) σ (.ref 428) [ptv p] Q := by
  refine K_fn (F_law_is_answer H) (by kernel_rfl) rfl fun env he => ?_
  have e0 := pt_head (p := p) (by exact ar15 hp)
  refine XS_cons (X_assign (E_sub (E_var he (u := ptv p) rfl (E_int ⟨_, item_pt (i := 0) hz (by exact ar15 hp), T_var he ?_⟩))))
  rw [e0]
  refine XS_cons (X_ret (E_and2 (E_chain2 (E_int (E_var he (u := .int (p.headD 0)) rfl (O2_le ⟨_, rfl, fun h1 => ?_, fun h1 => ?_⟩))))))
  · refine E_binop (E_fcall he (bltFact H (k := 5) (by rfl) (by rfl)) (keeps_builtin _ _) (E_var he (u := ptv p) rfl (C_len_tup (by simp [intVs]; exact ar8 hz) (E_int (O2_sub (O2_le ⟨_, rfl, fun h2 => ?_, fun h2 => ?_⟩))))))
    · have h1 := of_decide_eq_true h1
      have h2 := of_decide_eq_true h2
      rw [show (intVs p).length = p.length from by simp [intVs]] at h2
      refine E_compare (E_sub (E_var he (u := ptv p) rfl (E_var he (u := .int (p.headD 0)) rfl ?_)))
      obtain ⟨i, hi⟩ := Int.eq_ofNat_of_zero_le (a := p.headD 0) (by exact ar22 h1)
      rw [hi]
      have hil : i < p.length := by exact ar23 h2 hi
      refine ⟨_, item_pt hz hil, E_sub (E_var he (u := ptv p) rfl (E_unary (E_int (O1_neg ⟨_, item_last hz (by exact ar15 hp), O2_eqi ?_⟩))))⟩
      have : isAns p = (p.getD i 0 == p.getLastD 0) := by
        unfold isAns
        rw [hi]
        have a1 : decide (1 ≤ (i : Int)) = true := decide_eq_true (by exact ar24 h1 hi)
        have a2 : decide ((i : Int) ≤ (p.length : Int) - 2) = true := decide_eq_true (by exact ar25 h2 hi)
        rw [a1, a2]; simp
      rw [← this]; exact h
    · have h2 := of_decide_eq_false h2
      rw [show (intVs p).length = p.length from by simp [intVs]] at h2
      have : isAns p = false := by
        unfold isAns
        have a2 : decide (p.headD 0 ≤ (p.length : Int) - 2) = false := decide_eq_false (by assumption)
        rw [a2]; simp
      rw [this] at h; exact h
  · have h1 := of_decide_eq_false h1
    refine ⟨_, rfl, fun h => absurd h (by decide), fun _ => ?_⟩
    have : isAns p = false := by
      unfold isAns
      have a2 : decide (1 ≤ p.headD 0) = false := decide_eq_false (by assumption)
      rw [a2]; simp
    rw [this] at h; exact h
end
end Mine
end
section
open PySem PySem.W PySem.Calls PyProof.Rows
set_option maxRecDepth 100000
set_option linter.unusedVariables false
namespace Mine
section
variable {y : Sy} {n : Nat} {σ : St} {Q : V → St → Prop} {env : Env} {W : Str → Prop} {ρ : Env1} {e d : Addr} {m : Nat}
theorem p_init_ok (H : Says y.B) {sc : List V} {st : V} (hst : st.handed = true) (B : Bd σ 392 e d 0 (fun _ => none))
    (h : ∀ σ' f', Bd σ' 392 e d 3 f' → (∀ x, f' x = if x = "strength" then some st else if x = "scope" then some (.tup sc) else if x = "number" then some (.int (-1)) else none) → (∀ q z, σ q = some z → q ≠ d → σ' q = some z) → Q (.val .none) σ') :
    CallK y (n + 1) σ (.ref 274) [.val (.ref e), .tup sc, st] Q := by
  obtain ⟨K, X, hc, hm, hk, ha, hms, hsu⟩ := clsE H
  refine K_fn (F_p_init H) (by kernel_rfl) rfl fun env he => ?_
  refine XS_cons (X_bdV (u := .int (-1)) X hc B he rfl (ha _ (by decide)) (by exact Nat.zero_le _) rfl (fun Q q => E_unary (E_int (O1_neg q))) fun σ₁ f₁ B₁ ef₁ K₁ => ?_)
  refine XS_cons (X_bdV (u := .tup sc) X hc B₁ he rfl (ha _ (by decide)) (by exact ar29) (by rw [ef₁]; rfl) (fun Q q => E_fcall he (bltFact H (k := 4) (by rfl) (by rfl)) (keeps_type _ _) (E_var he (u := .tup sc) rfl (C_tuple_tup q))) fun σ₂ f₂ B₂ ef₂ K₂ => ?_)
  refine XS_cons (X_bdV (u := st) X hc B₂ he rfl (ha _ (by decide)) (by exact ar30) (by rw [ef₂, ef₁]; rfl) (fun Q q => E_var he (u := st) rfl q) fun σ₃ f₃ B₃ ef₃ K₃ => ?_)
  exact XS_nil (h σ₃ f₃ B₃ (fun x => by rw [ef₃, ef₂, ef₁]) fun q z e' n => K₃ q z (K₂ q z (K₁ q z e' n) n) n)

noncomputable def scI : Scope := { (meth 24 0).2.2 with names := (meth 24 0).2.2.names.filter (fun p => p.1 != "__class__") }
noncomputable abbrev envI (L : Addr) (q : Str) (cd : Value) : Env := { scope := scI, locals := L, globals := mainGlobals, cells := [], qual := q, func := some 335, code := cd, frame := some L, builtins := builtinsNs }
noncomputable abbrev envR (L : Addr) (q : Str) (cd : Value) : Env := { scope := (meth 24 0).2.2, locals := L, globals := mainGlobals, cells := [("__class__", 323)], qual := q, func := some 335, code := cd, frame := some L, builtins := builtinsNs }
noncomputable def callArgs : Option Stmt → List Expr
  | some (.Expr (.Call _ args _ _) _) => args
  | _ => []
theorem tI (L : Addr) (q : Str) (cd : Value) : execs ((meth 24 0).2.1.drop 1) (envR L q cd) = execs ((meth 24 0).2.1.drop 1) (envI L q cd) := by kernel_rfl
theorem tA (L : Addr) (q : Str) (cd : Value) : starEach (callArgs ((meth 24 0).2.1[0]?)) (envR L q cd) = starEach (callArgs ((meth 24 0).2.1[0]?)) (envI L q cd) := by kernel_rfl
theorem eFact (H : Says y.B) : (∃ o fd c co vs tf, y.B.get? 335 = some o ∧ o.data = .func fd ∧ fd.params = (meth 24 0).1 ∧ fd.body = .stmts (meth 24 0).2.1 ∧ fd.scope = (meth 24 0).2.2 ∧ fd.closure = ([("__class__", 323)] : List (Str × Addr)) ∧ fd.globals = mainGlobals ∧ fd.builtins = builtinsNs ∧ fd.defaults = .none ∧ fd.kwdefaults = .none ∧ y.B.CodeRec fd.code fd.qualname ∧
    fd.code = .ref c ∧ y.B.get? c = some co ∧ co.data = .fields vs ∧ vs[2]? = some (.str PySem.Challenge.pw_no0312_01.main.file tf)) ∧ y.B.NoLimit := by
  obtain ⟨h₀, e, kk⟩ := H
  have e1 : (fnAddrs.map (fnView h₀))[48]? = fnVals[48]? := congrArg (fun l => l[48]?) (congrArg Prod.fst e)
  have e2 : fnView h₀ 335 = fnSays [("__class__", 323)] (meth 24 0) := Option.some.inj e1
  obtain ⟨o, fd, ho, hd, p1, p2, p3, p4, p5, p6, p7, p8, p9⟩ := fnView_says e2
  have el : (_ && _ && _ && _ && _ && _) = true := congrArg (fun x : Told => x.2.2.2.2.2) e
  simp only [Bool.and_eq_true, decide_eq_true_eq] at el
  have ef := el.1.1.1.1.1
  refine ⟨?_, (nsLim el.1.2 el.2).keeps kk⟩
  unfold fileOk at ef
  obtain ⟨oc, od, odt, osl⟩ := o
  subst hd
  rw [ho] at ef
  dsimp only at ef
  split at ef
  · rename_i c hc
    split at ef
    · rename_i cc cd vs sl hco
      unfold isText at ef
      split at ef
      · rename_i x t hx
        have : x = _ := of_decide_eq_true ef
        subst this
        exact ⟨_, fd, c, _, vs, t, kk _ _ ho, rfl, p1, p2, p3, p4, p5, p6, p7, p8, p9.keeps kk, hc, kk _ _ hco, rfl, by rw [← Array.getElem?_toList]; exact hx⟩
      · cases ef
    · cases ef
  · cases ef

theorem callWith_tA {M : Model} {A : Around} {E : Value → Shared → Prop} {s : Shared} {Q : Value → Shared → Prop} {L : Addr} {q : Str} {cd : Value} {p : Pos} {f : Value} {fi : List Value}
    (h : wpAny M A (callWith p f fi (backTo p (starEach (callArgs ((meth 24 0).2.1[0]?)) (envI L q cd))) []) Q E s) : wpAny M A (callWith p f fi (backTo p (starEach (callArgs ((meth 24 0).2.1[0]?)) (envR L q cd))) []) Q E s := by rw [tA]; exact h
noncomputable def SupOk (y : Sy) : Prop := ((y.prog.main.file : Str) == PySem.Challenge.pw_no0312_01.main.file) = true ∧ (y.prog.main.scope.names.lookup ("super" : Str)).isSome = false
noncomputable def iBinds (v0 v1 v2 v3 : Value) : List (Str × Value) := [("self", v0), ("index", v1), ("cells", v2), ("z", v3)]
noncomputable def iRho (u0 u1 u2 u3 : V) : Env1 := bindR ["self", "index", "cells", "z"] [u0, u1, u2, u3]
theorem scI_names : scI.names.all (fun p => p.2 != .cell && p.2 != .free) = true := by kernel_rfl
theorem frI {B : Heap} {σ : St} {h : Heap} {L : Addr} {q : Str} {cd : Value} {v0 v1 v2 v3 : Value} {u0 u1 u2 u3 : V} (hB : B.get? L = none) (hS : σ L = none) (hns : h.Ns L fun x => (iBinds v0 v1 v2 v3).reverse.lookup x)
    (r0 : RepV h v0 u0) (r1 : RepV h v1 u1) (r2 : RepV h v2 u2) (r3 : RepV h v3 u3) : FrOK B (envI L q cd) (iRho u0 u1 u2 u3) σ h := by
  refine ⟨by kernel_rfl, rfl, rfl, hB, hS, ⟨_, hns, fun x u hk e => ?_⟩, fun x c e => (by cases e), fun x hx => ?_, fun x x' c e => (by cases e), fun x c e => (by cases e)⟩
  · unfold iRho bindR upd at e
    by_cases h0 : x = "self"
    · subst h0
      rw [if_pos rfl] at e; cases e
      exact ⟨v0, by rfl, r0⟩
    rw [if_neg h0] at e
    unfold bindR upd at e
    by_cases h1 : x = "index"
    · subst h1
      rw [if_pos rfl] at e; cases e
      exact ⟨v1, by rfl, r1⟩
    rw [if_neg h1] at e
    unfold bindR upd at e
    by_cases h2 : x = "cells"
    · subst h2
      rw [if_pos rfl] at e; cases e
      exact ⟨v2, by rfl, r2⟩
    rw [if_neg h2] at e
    unfold bindR upd at e
    by_cases h3 : x = "z"
    · subst h3
      rw [if_pos rfl] at e; cases e
      exact ⟨v3, by rfl, r3⟩
    rw [if_neg h3] at e
    cases e
  · have key : ∀ k, (scI.names.lookup x = some k) → k ≠ .cell ∧ k ≠ .free := fun k hk => by
      have := List.all_eq_true.mp scI_names _ (mem_of_lookup hk)
      simpa using this
    rcases hx with hx | hx
    · exact absurd rfl (key _ hx).1
    · exact absurd rfl (key _ hx).2
noncomputable def KeepsS (y : Sy) (σ : St) (f : Value) : Prop := ∀ h : Heap, Inv y.B σ h → ∃ k, (k = Keeper.frame ∨ k = Keeper.machine ∨ k = Keeper.boundFrame) ∧ Looks (model y.prog y.w) h (keeperOf f) k
theorem callWith_runM {f : Value} {args : List Expr} {pos : Pos} (h : EVs y n env ρ args (fun xs σ₂ => KeepsS y σ₂ f ∧ CallV y n σ₂ f xs Q) σ) (hs : args.all plainE = true) (hne : args ≠ [])
    {A : Around} (hA : Room A n) {s : Shared} (I : Inv y.B σ s.heap) (F : FrOK y.B env ρ σ s.heap) :
    Run y A No (callWith pos f [] (backTo pos (starEach args env)) []) s σ (QV Q) := by
  intro E
  have hp : ∀ args : List Expr, args.all plainE = true → (backTo pos (starEach args env)).any (·.1) = false := by
    intro args
    induction args with
    | nil => intro _; rfl
    | cons e es ih =>
      intro hs
      obtain ⟨h1, h2⟩ := Bool.and_eq_true_iff.mp (List.all_cons ▸ hs)
      rw [plainEs (es := e :: es) hs e (.head _) es]
      show (false || (backTo pos (starEach es env)).any (·.1)) = false
      rw [ih h2]; rfl
  refine callWith_of (P := fun h => ∃ k, (k = Keeper.frame ∨ k = Keeper.machine ∨ k = Keeper.boundFrame) ∧ Looks (model y.prog y.w) h (keeperOf f) k) (by rw [hp args hs]; rfl) (fun h' k => k) ?_
  have fin : wpAny (model y.prog y.w) A (spliced (backTo pos (starEach args env))) (fun vs s₁ => (∃ k, (k = Keeper.frame ∨ k = Keeper.machine ∨ k = Keeper.boundFrame) ∧ Looks (model y.prog y.w) s₁.heap (keeperOf f) k) ∧ wpAny (model y.prog y.w) A (call f ([] ++ vs) []) (Post y No s σ (QV Q)) E s₁) E s := by
    refine (evs_run args h (plainEs hs) A hA s I F).use ?_
    rintro vs h₁ tk σ₁ I₁ K₁ ⟨xs, rs, kk, q⟩
    refine ⟨kk _ I₁, (q A hA _ _ I₁ rs).use ?_⟩
    rintro v h₂ tk₂ σ₂ I₂ K₂ q
    exact ⟨_, _, σ₂, rfl, I₂, K₁.trans0 K₂, q⟩
  cases args with
  | nil => exact absurd rfl hne
  | cons e es =>
    rw [plainEs (es := e :: es) hs e (.head _) es] at fin ⊢
    exact evalArgs_plain (wpAny_mono fin (fun vs s₁ q => q) fun _ _ e => e)
noncomputable def bm (f a : Addr) : AO := .own (fun _ o => o = methodObj (.ref f) (.ref a)) (fun _ _ _ _ e => e) (fun h o e m => by
  subst e
  rcases m with ⟨e, _⟩ | ⟨e, _⟩
  · exact absurd e (by show ¬ (Value.type "method" = Value.type "tuple"); decide)
  · exact absurd e (by show ¬ (Value.type "method" = Value.type "range"); decide))
theorem keeps_bm {q f a : Addr} {o : Obj} {fd : FuncData} (e : σ q = some (bm f a)) (ho : y.B.get? f = some o) (hd : o.data = .func fd) : KeepsS y σ (.ref q) := fun h I => by
  obtain ⟨om, hom, rfl⟩ := I.obj _ _ e
  obtain ⟨c, d, dt, sl⟩ := o
  subst hd
  exact ⟨.boundFrame, .inr (.inr rfl), (Looks.ld (part := none) hom).andThen ((Looks.ld (part := none) (I.base _ _ ho)).andThen .now)⟩
theorem C_bm {q f a : Addr} {xs : List V} (e : σ q = some (bm f a)) (h : CallK y n σ (.ref f) (.val (.ref a) :: xs) Q) : CallV y n σ (.ref q) xs Q := fun A hA s vs I r E => by
  obtain ⟨om, hom, rfl⟩ := I.obj _ _ e
  refine wpAny_call (ks_codeAny_call_bound hom ?_)
  exact h A hA s (.ref a :: vs) _ I (.cons (.val _) r) fun v h' tk σ' x I' K' rv q => ⟨h', tk, σ', rfl, I', K', x, rv, q⟩
theorem lim_lookup {α : Type} {K : Frag} {a : Addr} (h : (K.lookup a).isSome = true) : ∃ o, K.lookup a = some o := Option.isSome_iff_exists.mp h
theorem e_init_ok (H : Says y.B) (hP : SupOk y) {ix z : V} {cs : List V} (hix : ix.handed = true) (hz : z.handed = true) (hl : cs.length ≤ 100) (B : Bd σ 392 e d 0 (fun _ => none))
    (h : ∀ σ' f', Bd σ' 392 e d 6 f' → (∀ x, f' x = if x = "z" then some z else if x = "cells" then some (.tup cs) else if x = "index" then some ix else if x = "strength" then some (.str "values") else if x = "scope" then some (.tup (ix :: cs ++ [z])) else if x = "number" then some (.int (-1)) else none) →
      (∀ q w, σ q = some w → q ≠ d → σ' q = some w) → Q (.val .none) σ') :
    CallK y (n + 2) σ (.ref 335) [.val (.ref e), ix, .tup cs, z] Q :=
  fun A hA s vs R I r hR => by
    obtain ⟨K, X, hc, hm, hk, ha, hms, hsu⟩ := clsE H
    obtain ⟨⟨o, fd, c, co, cvs, tf, ho, hd, p1, p2, p3, p4, p5, p6, p7, p8, p9, hcd, hco, hcod, hcv⟩, lim⟩ := eFact H
    unfold superOk at hsu
    simp only [Bool.and_eq_true, decide_eq_true_eq] at hsu
    obtain ⟨⟨⟨⟨⟨s1, s2⟩, s3⟩, s4⟩, s5⟩, s6⟩ := hsu
    obtain ⟨v0, v1, v2, v3, rfl, r0, r1, r2, r3⟩ := r.four
    cases r0.val_inv
    have hbind : bindArgs fd ⟨[.ref e, v1, v2, v3], []⟩ = pure (iBinds (.ref e) v1 v2 v3) := by
      have : Binds (meth 24 0).1 ["self", "index", "cells", "z"] := binds4 fun _ _ _ _ _ => by kernel_rfl
      exact this fd p1 p7 p8 [.ref e, v1, v2, v3] rfl
    have hcell : ∀ x ∈ fd.scope.names, x.2 ≠ .cell := by
      rw [p3]
      have : (meth 24 0).2.2.names.all (fun x => x.2 != .cell) = true := by kernel_rfl
      intro x hx
      have := List.all_eq_true.mp this x hx
      simpa using this
    have hloc : ∀ x ∈ iBinds (.ref e) v1 v2 v3, fd.scope.names.lookup x.1 = some .local := by
      rw [p3]
      intro x hx
      simp only [iBinds, List.mem_cons, List.not_mem_nil, or_false] at hx
      rcases hx with rfl | rfl | rfl | rfl <;> kernel_rfl
    obtain ⟨k1, k2, k3⟩ := freshB I
    have hE : ∀ L, callEnv fd L 335 = envR L (fd.qualname ++ ".<locals>.") fd.code := fun L => by
      unfold callEnv newEnv
      rw [p3, p4, p5, p6]
    refine ks_codeAny_call_defAt (by have := hA.dp; exact ar31 this) (I.base _ _ ho) hd (lim.keeps I.base) (p9.keeps I.base) p2 (BindsTo.of_eq hbind) hcell hloc (fun h₁ hns hk₁ => ?_) (by rw [p3]; kernel_rfl) (by rw [p3]; kernel_rfl) (by rw [p3]; kernel_rfl)
    rw [hE]
    generalize hL : s.heap.objs.size = L at *
    generalize hq : (fd.qualname ++ ".<locals>.") = q
    generalize hcdv : fd.code = cd at *
    obtain ⟨I₁, K₁⟩ := grow I hk₁
    have hAd : Room (A.deeper (envR L q cd)) (n + 1) := ⟨hA.hd, by have := hA.dp; show A.depth + 1 + 4 * (n + 1) + 4 < recursionLimit; exact ar32 this, by have := hA.un; show A.units + 3 + 100 * (n + 1 + 1) < cLine; exact ar33 this⟩
    have Xh := X.keeps I₁.base
    obtain ⟨cdE, hcdE⟩ := Option.isSome_iff_exists.mp s2
    obtain ⟨oE, hoE, hdE⟩ : ∃ oD, h₁.get? 392 = some oD ∧ oD.data = .cls cdE := by
      unfold clsIn at hcdE
      split at hcdE
      · rename_i c d cd' sl ho'
        cases hcdE
        exact ⟨_, Xh _ _ ho', rfl⟩
      · cases hcdE
    obtain ⟨oc, hoc, hcl⟩ : ∃ oc, h₁.get? 323 = some oc ∧ oc.data = .cell (some (.ref 392)) := by
      unfold cellIn at s1
      split at s1
      · rename_i c d v sl ho'
        cases s1
        exact ⟨_, Xh _ _ ho', rfl⟩
      · cases s1
    obtain ⟨od, Ia, hod, rd⟩ := inst_at I₁ B.inst B.att
    have hax : h₁.get? e = some (instObj 392 d) := Ia.at_
    have F₁ : FrOK y.B (envI L q cd) (iRho (.val (.ref e)) ix (.tup cs) z) σ h₁ := frI k1 k2 hns (.val _) (r1.keep I K₁) (r2.keep I K₁) (r3.keep I K₁)
    refine ks_wpAt_execs_cons (ks_wpAt_Expr_any (ks_wpAt_MethodCall ?_ (by rfl)) (by rfl) (by rfl))
    obtain ⟨mg, mb, v, G, gv, rg⟩ := bltFact H (k := 10) (x := "super") (v := .type "super") (by rfl) (by rfl)
    cases rg
    have hsup : ∀ {A : Around} {E : Value → Shared → Prop} {Q : Value → Shared → Prop} {tk : Nat}, Q (.type "super") (sw s h₁ tk) → wpAny (model y.prog y.w) A (loadName (envR L q cd) "super") Q E (sw s h₁ tk) := fun hQ => by
      refine ks_loadName_global (by kernel_rfl) (by kernel_rfl) ?_
      rcases gv with gv | ⟨gv, gv'⟩
      · exact loadGlobal_global (G.g.keeps I₁.base) gv hQ
      · exact loadGlobal_builtin (G.g.keeps I₁.base) gv (G.b.keeps I₁.base) gv' hQ
    have hco₁ := I₁.base _ _ hco
    obtain ⟨ar, har, hself⟩ : ∃ ar : Arg, (fd.params.posonlyargs ++ fd.params.args).head? = some ar ∧ ar.arg = "self" := by
      rw [p1]; exact ⟨_, rfl, by rfl⟩
    refine ks_wpAt_super_base (by kernel_rfl) (by kernel_rfl) (by rfl) rfl (I₁.base _ _ ho) hd har hcd hco₁ hcod hcv hP.1 hP.2 (hsup ⟨rfl, ?_⟩)
    refine wpAny_loadName_free (by kernel_rfl) (by kernel_rfl) rfl ⟨_, hoc, hcl⟩ ?_
    rw [hself]
    refine wpAny_loadName_local (v := .ref e) (by kernel_rfl) (by kernel_rfl) hns (by rfl) ?_
    refine ks_wpAny_isType_cls hoE hdE ⟨rfl, ?_⟩
    refine ks_wpAny_call_super hoE hdE hax rfl (fun c hc => by cases hc) (looks_mroIn Xh s3) fun h₂ hso k₂ => ?_
    obtain ⟨I₂, K₂⟩ := grow I₁ k₂
    have F₂ := F₁.keep I₁ K₂
    have Xh₂ := X.keeps I₂.base
    unfold ks_superIn at s4
    rw [hcdE] at s4
    obtain ⟨of, hof, hofc⟩ : ∃ of, h₂.get? 274 = some of ∧ of.cls = .type "function" := by
      have ht' : (K.lookup 274).map (·.cls) = some (.type "function") := s5
      cases z : K.lookup 274 with
      | none => rw [z] at ht'; cases ht'
      | some of => rw [z] at ht'; exact ⟨of, Xh₂ _ _ z, Option.some.inj ht'⟩
    have hxC : e ≠ 392 := by
      rintro rfl
      have := I.new _ _ B.inst
      have hB : ∃ o, y.B.get? 392 = some o := by
        unfold clsIn at hcdE
        split at hcdE
        · rename_i c d cd' sl ho'
          exact ⟨_, X _ _ ho'⟩
        · cases hcdE
      obtain ⟨o', ho'⟩ := hB
      rw [this] at ho'; cases ho'
    refine ks_wpAny_getMethod_super hso (looks_opaque Xh₂ s6) (l₀ := cdE.mro) (fun A Q E s k q => wpAny_bind ((looks_clsIn Xh₂ hcdE) A _ E s k (wpAny_pure q))) rfl Xh₂ s4 hof hofc hxC (by rfl) ?_
    obtain ⟨I₃, K₃, fr₃⟩ := push (x := bm 274 e) I₂ (o := methodObj (.ref 274) (.ref e)) rfl rfl
    have F₃ := F₂.keep I₂ K₃
    have hqe : (σ.put h₂.objs.size (bm 274 e)) h₂.objs.size = some (bm 274 e) := St.put_self ..
    have B₃ : Bd (σ.put h₂.objs.size (bm 274 e)) 392 e d 0 (fun _ => none) := B.fresh fr₃
    have L₃ : St.Le σ (σ.put h₂.objs.size (bm 274 e)) := St.Le.put fr₃
    generalize hσ₃ : σ.put h₂.objs.size (bm 274 e) = σ₃ at *
    generalize hqq : h₂.objs.size = qm at *
    obtain ⟨o274, fd274, ho274, hd274, _⟩ := (F_p_init H).at'
    dsimp only
    refine callWith_tA (q := q) ?_
    have he : (envI L q cd).scope = scI := rfl
    refine (callWith_runM (y := y) (n := n + 1) (env := envI L q cd) (Q := fun _ σ' => ∃ f', Bd σ' 392 e d 3 f' ∧ (∀ x, f' x = if x = "strength" then some (.str "values") else if x = "scope" then some (.tup (ix :: cs ++ [z])) else if x = "number" then some (.int (-1)) else none) ∧ (∀ q w, σ₃ q = some w → q ≠ d → σ' q = some w)) (σ := σ₃) ?_ (by kernel_rfl) (by intro h; cases h) hAd (s := sw s (h₂.push (methodObj (.ref 274) (.ref e))) (s.toks + (iBinds (Value.ref e) v1 v2 v3).length + 1)) I₃ F₃).use ?_
    · refine E_binop (E_binop (E_tuple (E_var he (u := ix) rfl ⟨by simp, E_fcall he (bltFact H (k := 4) (by rfl) (by rfl)) (keeps_type _ _) (E_var he (u := .tup cs) rfl (C_tuple_tup (O2_addT (by simp; exact ar34 hl) (E_tuple (E_var he (u := z) rfl ⟨by simp, O2_addT (by simp; exact ar35 hl) (E_str ?_)⟩)))))⟩)))
      refine ⟨keeps_bm hqe ho274 hd274, C_bm hqe ?_⟩
      exact p_init_ok H rfl B₃ fun σ' f' B' ef' K' => ⟨f', B', ef', K'⟩
    · rintro v h₄ tk₄ σ₄ I₄ K₄ ⟨_, _, f₄, B₄, ef₄, L₄⟩
      refine wpAt_of_wpAny ?_
      show wpAny _ _ (execs ((meth 24 0).2.1.drop 1) (envR L q cd)) _ _ _
      rw [tI]
      have F₄ := F₃.keep I₃ K₄
      have xs : XS y (n + 1) (envI L q cd) (fun _ => True) ((meth 24 0).2.1.drop 1) (iRho (.val (.ref e)) ix (.tup cs) z) σ₄ fun g _ σ' => g = .next ∧ Q (.val .none) σ' := by
        refine XS_cons (X_bdV (u := ix) X hc B₄ he rfl (ha _ (by decide)) (by exact ar36) (by rw [ef₄]; rfl) (fun Q q => E_var he (u := ix) rfl q) fun σ₅ f₅ B₅ ef₅ L₅ => ?_)
        refine XS_cons (X_bdV (u := .tup cs) X hc B₅ he rfl (ha _ (by decide)) (by exact ar37) (by rw [ef₅, ef₄]; rfl) (fun Q q => E_fcall he (bltFact H (k := 4) (by rfl) (by rfl)) (keeps_type _ _) (E_var he (u := .tup cs) rfl (C_tuple_tup q))) fun σ₆ f₆ B₆ ef₆ L₆ => ?_)
        refine XS_cons (X_bdV (u := z) X hc B₆ he rfl (ha _ (by decide)) (by exact ar38) (by rw [ef₆, ef₅, ef₄]; rfl) (fun Q q => E_var he (u := z) rfl q) fun σ₇ f₇ B₇ ef₇ L₇ => ?_)
        refine XS_nil ⟨rfl, h σ₇ f₇ B₇ (fun x => by rw [ef₇, ef₆, ef₅, ef₄]) fun q w e' n => L₇ _ _ (L₆ _ _ (L₅ _ _ (L₄ _ _ (L₃ _ _ e') n) n) n) n⟩
      refine (xs _ hAd (sw s h₄ tk₄) I₄ F₄).use fun fl h₅ tk₅ σ₅ I₅ K₅ ⟨g, ρ₅, hf, F₅, eg, hQ⟩ => ?_
      subst eg
      cases fl <;> try exact hf.elim
      have KK : Keep No σ s.heap σ₅ h₅ := (((K₁.trans0 K₂).trans0 K₃).trans0 K₄).transNew K₅ fun a q => .inr (by
        rcases q with rfl | ⟨x, _, e'⟩
        · exact k3
        · cases e')
      exact hR .none h₅ tk₅ σ₅ _ I₅ KK (.val _) hQ
theorem scopeL_eq (m : Nat) : scopeL m = 0 :: cellsL m ++ [m + 1] := by
  unfold scopeL cellsL
  rw [List.range_succ, List.range_succ_eq_map]
theorem elem_new (H : Says y.B) (hP : SupOk y) (hm : m ≤ 50) (h : ∀ e d σ', EA σ' e d m → σ e = none → σ d = none → σ.Le σ' → Q (.val (.ref e)) σ') : CallV y (n + 3) σ (.ref 392) [.int ((0 : Nat) : Int), .tup (natVs (cellsL m)), .int ((m + 1 : Nat) : Int)] Q := by
  obtain ⟨K, X, hc, hmk, hk, ha, hms, hsu⟩ := clsE H
  obtain ⟨m1, m2⟩ := hms ("__init__", 335) (by decide)
  refine C_make X hmk m1 m2 fun e d fe fd ned => ?_
  have B₀ : Bd ((σ.put d (.attrs 0 fun _ => none)).put e (.inst 392 d)) 392 e d 0 (fun _ => none) := ⟨St.put_self .., (St.put_ne (Ne.symm ned)).trans (St.put_self ..), ned⟩
  have L₀ : ∀ q z, σ q = some z → ((σ.put d (.attrs 0 fun _ => none)).put e (.inst 392 d)) q = some z ∧ q ≠ d := fun q z e' => by
    have n1 : q ≠ d := by rintro rfl; rw [fd] at e'; cases e'
    have n2 : q ≠ e := by rintro rfl; rw [fe] at e'; cases e'
    exact ⟨by rw [St.put_ne n2, St.put_ne n1]; exact e', n1⟩
  refine e_init_ok H hP rfl rfl (by simp [natVs, cellsL]; exact ar39 hm) B₀ fun σ' f' B' ef' L' => ⟨rfl, ?_⟩
  refine h e d σ' ⟨B'.inst, ?_⟩ fe fd fun q z e' => L' q z (L₀ q z e').1 (L₀ q z e').2
  have ef : f' = eattr m := by
    funext x
    rw [ef']
    by_cases h1 : x = "z"
    · subst h1; rfl
    by_cases h2 : x = "cells"
    · subst h2; rfl
    by_cases h3 : x = "index"
    · subst h3; rfl
    by_cases h4 : x = "strength"
    · subst h4; rfl
    by_cases h5 : x = "scope"
    · subst h5
      show some (V.tup _) = some (V.tup _)
      rw [scopeL_eq]
      simp [natVs]
    by_cases h6 : x = "number"
    · subst h6; rfl
    simp only [eattr, h1, h2, h3, h4, h5, h6, if_false]
  rw [← ef]; exact B'.att
end
end Mine
end
section
open PySem PySem.W PySem.Calls PyProof.Rows
set_option maxRecDepth 100000
set_option linter.unusedVariables false
namespace Mine
noncomputable def bitsV (k : Nat) : List Int := ((List.range 6).filter fun i => k.testBit i).map fun (i : Nat) => (i : Int) - 1
noncomputable def rangesG : List Int → Dom → Dom
  | [], acc => acc
  | v :: l, acc => match acc.getLast? with
    | some q => if q.2 == v - 1 then rangesG l (acc.dropLast ++ [(q.1, v)]) else rangesG l (acc ++ [(v, v)])
    | none => rangesG l [(v, v)]
noncomputable def ranges (l : List Int) : Dom := rangesG l []
noncomputable def domOf (k : Nat) : Dom := ranges (bitsV k)
noncomputable def maskOf (l : List Int) : Nat := (l.map fun v => 2 ^ (v + 1).toNat).sum
noncomputable def meetsB (s : Sg) (j v : Int) : Bool := match s with
  | .le => decide (v ≤ j)
  | .ge => decide (j ≤ v)
  | .eq => v == j
  | .ne => v != j
noncomputable abbrev satB (l : Lit) (v : Int) : Bool := meetsB l.2.1 l.2.2 v
noncomputable def Can (D : Dom) : Prop := ∃ k : Fin 64, D = domOf k
theorem d_vals : ∀ k : Fin 64, valsD (domOf k) = bitsV k := by decide +kernel
theorem d_mask : ∀ k : Fin 64, maskOf (bitsV k) = k := by decide +kernel
theorem d_le : ∀ (k : Fin 64) (j : Fin 10), struckD (0, .le, (j : Int) - 3) (domOf k) = domOf (maskOf ((bitsV k).filter (meetsB .le ((j : Int) - 3)))) ∧ maskOf ((bitsV k).filter (meetsB .le ((j : Int) - 3))) < 64 := by decide +kernel
theorem d_ge : ∀ (k : Fin 64) (j : Fin 10), struckD (0, .ge, (j : Int) - 3) (domOf k) = domOf (maskOf ((bitsV k).filter (meetsB .ge ((j : Int) - 3)))) ∧ maskOf ((bitsV k).filter (meetsB .ge ((j : Int) - 3))) < 64 := by decide +kernel
theorem d_eq : ∀ (k : Fin 64) (j : Fin 10), struckD (0, .eq, (j : Int) - 3) (domOf k) = domOf (maskOf ((bitsV k).filter (meetsB .eq ((j : Int) - 3)))) ∧ maskOf ((bitsV k).filter (meetsB .eq ((j : Int) - 3))) < 64 := by decide +kernel
theorem d_ne : ∀ (k : Fin 64) (j : Fin 10), struckD (0, .ne, (j : Int) - 3) (domOf k) = domOf (maskOf ((bitsV k).filter (meetsB .ne ((j : Int) - 3)))) ∧ maskOf ((bitsV k).filter (meetsB .ne ((j : Int) - 3))) < 64 := by decide +kernel
theorem d_filt : ∀ (k : Fin 64) (j : Fin 10), ∀ s ∈ [Sg.le, .ge, .eq, .ne], bitsV (maskOf ((bitsV k).filter (meetsB s ((j : Int) - 3)))) = (bitsV k).filter (meetsB s ((j : Int) - 3)) := by decide +kernel
theorem d_has : ∀ (k : Fin 64) (j : Fin 10), hasD (domOf k) ((j : Int) - 3) = decide (((j : Int) - 3) ∈ bitsV k) := by decide +kernel
theorem d_size : ∀ k : Fin 64, sizeD (domOf k) = (bitsV k).length := by decide +kernel
theorem d_low : ∀ k : Fin 64, ∀ u ∈ bitsV k, lowD (domOf k) ≤ u ∧ u ≤ highD (domOf k) := by decide +kernel
theorem d_meet : ∀ a b : Fin 64, decide (meetD (domOf a) (domOf b) = []) = ((bitsV a).all fun v => !(bitsV b).contains v) := by decide +kernel
theorem d_fixed : ∀ k : Fin 64, fixedD (domOf k) = ((bitsV k).length == 1) := by decide +kernel
theorem d_value : ∀ k : Fin 64, (bitsV k).length = 1 → bitsV k = [lowD (domOf k)] := by decide +kernel
theorem d_small : ∀ k : Fin 64, (domOf k).length ≤ 100 ∧ ∀ p ∈ domOf k, -100 ≤ p.1 ∧ p.1 ≤ 100 ∧ -100 ≤ p.2 ∧ p.2 ≤ 100 := by decide +kernel
theorem d_sorted : ∀ k : Fin 64, (bitsV k).Pairwise (· < ·) := by decide +kernel
theorem d_rng : ∀ k : Fin 64, ∀ v ∈ bitsV k, -1 ≤ v ∧ v ≤ 4 := by decide +kernel
theorem d_nil : ∀ k : Fin 64, domOf k = [] ↔ bitsV k = [] := by decide +kernel
end Mine
end
section
open PySem PySem.W PySem.Calls PyProof.Rows
set_option maxRecDepth 100000
set_option linter.unusedVariables false
namespace Mine
section
variable {D E : Dom} {v : Int}
theorem Can.vals (h : Can D) : ∃ k : Fin 64, D = domOf k ∧ valsD D = bitsV k := by
  obtain ⟨k, rfl⟩ := h
  exact ⟨k, rfl, d_vals k⟩
theorem Can.eq (h : Can D) (h' : Can E) : D = E ↔ valsD D = valsD E := by
  obtain ⟨k, rfl, a⟩ := h.vals
  obtain ⟨j, rfl, b⟩ := h'.vals
  constructor
  · intro e; rw [e]
  · intro e
    rw [a, b] at e
    have := congrArg maskOf e
    rw [d_mask, d_mask] at this
    rw [this]
theorem Can.nil (h : Can D) : D = [] ↔ valsD D = [] := by
  obtain ⟨k, rfl, a⟩ := h.vals
  rw [a]; exact d_nil k
theorem Can.rng (h : Can D) : ∀ v ∈ valsD D, -1 ≤ v ∧ v ≤ 4 := by
  obtain ⟨k, rfl, a⟩ := h.vals
  rw [a]; exact d_rng k
theorem Can.sorted (h : Can D) : (valsD D).Pairwise (· < ·) := by
  obtain ⟨k, rfl, a⟩ := h.vals
  rw [a]; exact d_sorted k
theorem Can.small (h : Can D) : Small D := by
  obtain ⟨k, rfl, a⟩ := h.vals
  exact d_small k
theorem Can.size (h : Can D) : sizeD D = (valsD D).length := by
  obtain ⟨k, rfl, a⟩ := h.vals
  rw [a]; exact d_size k
theorem idx_of {j : Int} (h : -3 ≤ j ∧ j ≤ 6) : ∃ i : Fin 10, j = (i : Int) - 3 := by
  refine ⟨⟨(j + 3).toNat, by exact ar402 h⟩, ?_⟩
  show j = (((j + 3).toNat : Nat) : Int) - 3
  exact ar403 h
theorem Can.has (h : Can D) (hv : -3 ≤ v ∧ v ≤ 6) : hasD D v = decide (v ∈ valsD D) := by
  obtain ⟨k, rfl, a⟩ := h.vals
  obtain ⟨i, rfl⟩ := idx_of hv
  rw [a]; exact d_has k i
theorem Can.struck (h : Can D) {x : Int} {s : Sg} {j : Int} (hj : -3 ≤ j ∧ j ≤ 6) : Can (struckD (x, s, j) D) ∧ valsD (struckD (x, s, j) D) = (valsD D).filter (meetsB s j) := by
  obtain ⟨k, rfl, a⟩ := h.vals
  obtain ⟨i, rfl⟩ := idx_of hj
  have key : struckD (0, s, (i : Int) - 3) (domOf k) = domOf (maskOf ((bitsV k).filter (meetsB s ((i : Int) - 3)))) ∧ maskOf ((bitsV k).filter (meetsB s ((i : Int) - 3))) < 64 := by
    cases s
    · exact d_le k i
    · exact d_ge k i
    · exact d_eq k i
    · exact d_ne k i
  have e : struckD (x, s, (i : Int) - 3) (domOf k) = domOf (maskOf ((bitsV k).filter (meetsB s ((i : Int) - 3)))) := key.1
  refine ⟨⟨⟨_, key.2⟩, e⟩, ?_⟩
  have f := d_filt k i s (by cases s <;> simp)
  have g := d_vals ⟨_, key.2⟩
  rw [e, a]
  exact g.trans f
theorem Can.low (h : Can D) : ∀ u ∈ valsD D, lowD D ≤ u ∧ u ≤ highD D := by
  obtain ⟨k, rfl, a⟩ := h.vals
  rw [a]; exact d_low k
theorem Can.meet (h : Can D) (h' : Can E) : meetD D E = [] ↔ ∀ v ∈ valsD D, v ∉ valsD E := by
  obtain ⟨k, rfl, a⟩ := h.vals
  obtain ⟨j, rfl, b⟩ := h'.vals
  have := d_meet k j
  rw [a, b, show (meetD (domOf k) (domOf j) = []) ↔ decide (meetD (domOf k) (domOf j) = []) = true from (decide_eq_true_iff).symm, this]
  simp
theorem Can.fixed (h : Can D) : fixedD D = ((valsD D).length == 1) := by
  obtain ⟨k, rfl, a⟩ := h.vals
  rw [a]; exact d_fixed k
theorem Can.value (h : Can D) (hl : (valsD D).length = 1) : valsD D = [lowD D] := by
  obtain ⟨k, rfl, a⟩ := h.vals
  rw [a] at hl ⊢; exact d_value k hl
theorem lack_spec {F : Dom} (hF : Can F) (hD : Can D) (hv : -1 ≤ v ∧ v ≤ 4) (hn : v ∉ valsD D) {x : Int} : (∀ l ∈ lackD F D x v, l.1 = x ∧ (∀ u ∈ valsD D, satB l u = true) ∧ satB l v = false) ∧ (lackD F D x v = [] → v ∉ valsD F) := by
  unfold lackD
  rw [hF.has (by exact ar81 hv)]
  by_cases h1 : v ∈ valsD F
  · rw [decide_eq_true h1, if_neg (by simp)]
    by_cases h2 : v < lowD D
    · rw [if_pos h2]
      refine ⟨fun l hl => ?_, fun e => by cases e⟩
      simp only [List.mem_singleton] at hl
      subst hl
      refine ⟨rfl, fun u hu => ?_, ?_⟩
      · have := (hD.low u hu).1
        show decide (v + 1 ≤ u) = true
        exact decide_eq_true (by exact ar404 h2 this)
      · show decide (v + 1 ≤ v) = false
        exact decide_eq_false (by exact ar405)
    · rw [if_neg h2]
      by_cases h3 : highD D < v
      · rw [if_pos h3]
        refine ⟨fun l hl => ?_, fun e => by cases e⟩
        simp only [List.mem_singleton] at hl
        subst hl
        refine ⟨rfl, fun u hu => ?_, ?_⟩
        · have := (hD.low u hu).2
          show decide (u ≤ v - 1) = true
          exact decide_eq_true (by exact ar406 h3 this)
        · show decide (v ≤ v - 1) = false
          exact decide_eq_false (by exact ar407)
      · rw [if_neg h3]
        refine ⟨fun l hl => ?_, fun e => by cases e⟩
        simp only [List.mem_singleton] at hl
        subst hl
        refine ⟨rfl, fun u hu => ?_, ?_⟩
        · show (u != v) = true
          have : u ≠ v := by rintro rfl; exact hn hu
          simpa using this
        · show (v != v) = false
          simp
  · rw [decide_eq_false h1, if_pos rfl]
    exact ⟨by simp, fun _ => h1⟩
end

noncomputable def dS (S : SS) (x : Nat) : Dom := S.doms.getD x []
noncomputable def fS (S : SS) (x : Nat) : Dom := S.firsts.getD x []
noncomputable def roomD (l : List Dom) : Nat := (l.map fun D => (valsD D).length).sum
structure OKC (m : Nat) (F L : List Dom) (T : List TE) : Prop where
  hm : 2 ≤ m ∧ m ≤ 3
  ld : L.length = m + 2
  lf : F.length = m + 2
  can : ∀ D ∈ L, Can D ∧ D ≠ []
  canf : ∀ D ∈ F, Can D ∧ D ≠ []
  sub : ∀ x, x < m + 2 → ∀ v ∈ valsD (L.getD x []), v ∈ valsD (F.getD x [])
  v3 : ∀ x, 1 ≤ x → x < m + 2 → (valsD (F.getD x [])).length ≤ 3
  w : T.length + roomD L ≤ 14
structure OKS (m : Nat) (S : SS) : Prop extends OKC m S.firsts S.doms S.trail where
  nw : S.news ≤ S.trail.length
theorem getD_mem {α : Type} {l : List α} {x : Nat} {a : α} (h : x < l.length) : l.getD x a ∈ l := by
  have : l.getD x a = l[x] := by simp [h]
  rw [this]; exact List.getElem_mem h
theorem OKC.dcan {m : Nat} {F L : List Dom} {T : List TE} (O : OKC m F L T) {x : Nat} (hx : x < m + 2) : Can (L.getD x []) ∧ L.getD x [] ≠ [] := O.can _ (getD_mem (by rw [O.ld]; exact hx))
theorem OKC.fcan {m : Nat} {F L : List Dom} {T : List TE} (O : OKC m F L T) {x : Nat} (hx : x < m + 2) : Can (F.getD x []) ∧ F.getD x [] ≠ [] := O.canf _ (getD_mem (by rw [O.lf]; exact hx))
theorem roomD_set : ∀ (l : List Dom) (x : Nat) (D : Dom), x < l.length → roomD (l.set x D) + (valsD (l.getD x [])).length = roomD l + (valsD D).length
  | [], x, D, h => by simp at h
  | E :: l, 0, D, h => by simp [roomD]; exact ar408
  | E :: l, x + 1, D, h => by
    have := roomD_set l x D (by simpa using h)
    simp [roomD] at this ⊢
    exact ar409 this
theorem filter_lt {l : List Int} {p : Int → Bool} (h : l.filter p ≠ l) : (l.filter p).length < l.length := by
  rcases Nat.lt_or_ge (l.filter p).length l.length with q | q
  · exact q
  · exact absurd (List.filter_eq_self.mpr (List.length_filter_eq_length_iff.mp (Nat.le_antisymm (List.length_filter_le ..) q))) h
theorem getD_set {α : Type} {l : List α} {x z : Nat} {a d : α} (hx : x < l.length) : (l.set x a).getD z d = if z = x then a else l.getD z d := by
  by_cases h : z = x
  · subst h; simp [hx]
  · simp [h, List.getElem?_set_ne (Ne.symm h)]

theorem enter_cases {m : Nat} {S : SS} (O : OKS m S) {x : Nat} {s : Sg} {j : Int} {why : Option (List Lit)} (hx : x < m + 2) (hj : -3 ≤ j ∧ j ≤ 6) :
    ((∀ v ∈ valsD (dS S x), meetsB s j v = false) ∧ enterS S (x, s, j) why = ({ S with failed := true, clash := why.getD [] ++ [neg (x, s, j)] }, false)) ∨
    ((∀ v ∈ valsD (dS S x), meetsB s j v = true) ∧ enterS S (x, s, j) why = (S, true)) ∨
    (∃ fresh, Can fresh ∧ fresh ≠ [] ∧ valsD fresh = (valsD (dS S x)).filter (meetsB s j) ∧ (valsD fresh).length < (valsD (dS S x)).length ∧ (∃ v ∈ valsD (dS S x), meetsB s j v = true) ∧ (∃ v ∈ valsD (dS S x), meetsB s j v = false) ∧
      enterS S (x, s, j) why = ({ S with doms := S.doms.set x fresh, trail := S.trail ++ [⟨dS S x, (x, s, j), why⟩], news := S.news + 1 }, true)) := by
  have hc := O.dcan hx
  have hs := hc.1.struck (x := (x : Int)) (s := s) hj
  have e : enterS S (x, s, j) why = (if struckD ((x : Int), s, j) (dS S x) = [] then ({ S with failed := true, clash := why.getD [] ++ [neg ((x : Int), s, j)] }, false)
    else if struckD ((x : Int), s, j) (dS S x) = dS S x then (S, true)
    else ({ S with doms := S.doms.set x (struckD ((x : Int), s, j) (dS S x)), trail := S.trail ++ [⟨dS S x, ((x : Int), s, j), why⟩], news := S.news + 1 }, true)) := by
    unfold enterS
    simp only [Int.toNat_natCast]
    rfl
  rw [e]
  have hs : Can (struckD ((x : Int), s, j) (dS S x)) ∧ valsD (struckD ((x : Int), s, j) (dS S x)) = (valsD (dS S x)).filter (meetsB s j) := hs
  have hc : Can (dS S x) ∧ dS S x ≠ [] := hc
  generalize hf : struckD ((x : Int), s, j) (dS S x) = fresh at *
  by_cases h1 : fresh = []
  · rw [if_pos h1]
    refine .inl ⟨fun v hv => ?_, rfl⟩
    have := hs.1.nil.mp h1
    rw [hs.2] at this
    have := List.filter_eq_nil_iff.mp this v hv
    simpa using this
  rw [if_neg h1]
  by_cases h2 : fresh = dS S x
  · rw [if_pos h2]
    refine .inr (.inl ⟨fun v hv => ?_, rfl⟩)
    have := (hs.1.eq hc.1).mp h2
    rw [hs.2] at this
    exact List.filter_eq_self.mp this v hv
  rw [if_neg h2]
  have hne : (valsD (dS S x)).filter (meetsB s j) ≠ valsD (dS S x) := fun q => h2 ((hs.1.eq hc.1).mpr (by rw [hs.2, q]))
  refine .inr (.inr ⟨fresh, hs.1, h1, hs.2, by rw [hs.2]; exact filter_lt hne, ?_, ?_, rfl⟩)
  · have : valsD fresh ≠ [] := fun q => h1 (hs.1.nil.mpr q)
    rw [hs.2] at this
    obtain ⟨v, l, e⟩ := List.exists_cons_of_ne_nil this
    have := List.mem_filter.mp (show v ∈ (valsD (dS S x)).filter (meetsB s j) by rw [e]; exact .head _)
    exact ⟨v, this.1, this.2⟩
  · refine Classical.byContradiction fun q => hne (List.filter_eq_self.mpr fun v hv => ?_)
    cases e : meetsB s j v with
    | true => rfl
    | false => exact absurd ⟨v, hv, e⟩ q

theorem OKC.set {m : Nat} {F L : List Dom} {T : List TE} (O : OKC m F L T) {x : Nat} {fresh : Dom} {t : TE} (hx : x < m + 2) (hc : Can fresh) (hne : fresh ≠ []) (hsub : ∀ v ∈ valsD fresh, v ∈ valsD (L.getD x [])) (hlt : (valsD fresh).length < (valsD (L.getD x [])).length) :
    OKC m F (L.set x fresh) (T ++ [t]) where
  hm := O.hm
  ld := by rw [List.length_set]; exact O.ld
  lf := O.lf
  can := fun D hD => by
    rcases List.mem_or_eq_of_mem_set hD with h | h
    · exact O.can D h
    · rw [h]; exact ⟨hc, hne⟩
  canf := O.canf
  sub := fun z hz v hv => by
    rw [getD_set (by rw [O.ld]; exact hx)] at hv
    by_cases h : z = x
    · subst h
      rw [if_pos rfl] at hv
      exact O.sub z hz v (hsub v hv)
    · rw [if_neg h] at hv
      exact O.sub z hz v hv
  v3 := O.v3
  w := by
    have := roomD_set L x fresh (by rw [O.ld]; exact hx)
    have := O.w
    rw [List.length_append, List.length_singleton]
    exact ar410 hlt (by assumption) this

noncomputable def AnsF (m : Nat) (F : List Dom) (p : List Int) : Prop := p.length = m + 2 ∧ (∀ x, x < m + 2 → p.getD x 0 ∈ valsD (F.getD x [])) ∧ isAns p = true
noncomputable def litSat (l : Lit) (p : List Int) : Bool := satB l (p.getD l.1.toNat 0)
noncomputable def inR (m : Nat) (l : Lit) : Prop := 0 ≤ l.1 ∧ l.1 < (m : Int) + 2
noncomputable def Holds (S : SS) (l : Lit) : Prop := ∀ v ∈ valsD (dS S l.1.toNat), satB l v = true
structure Sound (m : Nat) (S : SS) (l : Lit) (r : List Lit) : Prop where
  rng : inR m l ∧ ∀ q ∈ r, inR m q
  holds : ∀ q ∈ r, Holds S q
  force : ∀ p, AnsF m S.firsts p → (∀ q ∈ r, litSat q p = true) → litSat l p = true
inductive Step (m : Nat) : SS → SS → Prop
  | mk {S : SS} {x : Nat} {s : Sg} {j : Int} {r : List Lit} {fresh : Dom} (hx : x < m + 2) (so : Sound m S (x, s, j) r) (hc : Can fresh) (hne : fresh ≠ []) (hv : valsD fresh = (valsD (dS S x)).filter (meetsB s j)) (hlt : (valsD fresh).length < (valsD (dS S x)).length)
      (h1 : ∃ v ∈ valsD (dS S x), meetsB s j v = true) (h2 : ∃ v ∈ valsD (dS S x), meetsB s j v = false) (hr : r.length ≤ 900) : Step m S { S with doms := S.doms.set x fresh, trail := S.trail ++ [⟨dS S x, (x, s, j), some r⟩], news := S.news + 1 }
inductive Path (m : Nat) : SS → SS → Prop
  | refl {S : SS} : Path m S S
  | step {S S₁ S' : SS} : Path m S S₁ → Step m S₁ S' → Path m S S'
theorem Path.trans {m : Nat} {S₁ S₂ S₃ : SS} (a : Path m S₁ S₂) (b : Path m S₂ S₃) : Path m S₁ S₃ := by
  induction b with
  | refl => exact a
  | step _ s ih => exact .step ih s
noncomputable def FailS (m : Nat) (S S' : SS) : Prop := ∃ (x : Nat) (s : Sg) (j : Int) (r : List Lit), x < m + 2 ∧ Sound m S (x, s, j) r ∧ (∀ v ∈ valsD (dS S x), meetsB s j v = false) ∧ r.length ≤ 900 ∧ S' = { S with failed := true, clash := r ++ [neg (x, s, j)] }
noncomputable def Res (m : Nat) (S S' : SS) (b : Bool) : Prop := match b with
  | true => Path m S S'
  | false => ∃ S₁, Path m S S₁ ∧ FailS m S₁ S'
theorem Step.ok {m : Nat} {S S' : SS} (st : Step m S S') (O : OKS m S) : OKS m S' ∧ S'.firsts = S.firsts ∧ S'.failed = S.failed ∧ roomD S'.doms < roomD S.doms ∧ S'.marks = S.marks ∧ S'.clash = S.clash := by
  cases st with
  | mk hx so hc hne hv hlt h1 h2 hr =>
    refine ⟨⟨O.toOKC.set hx hc hne (fun v hm => ?_) hlt, ?_⟩, rfl, rfl, ?_, rfl, rfl⟩
    · rw [hv] at hm; exact (List.mem_filter.mp hm).1
    · show _ ≤ (_ ++ [_]).length
      rw [List.length_append, List.length_singleton]
      have := O.nw
      show _ + 1 ≤ _ + 1
      exact ar219 this
    · rename_i x s j r fresh
      have := roomD_set S.doms x fresh (by rw [O.ld]; exact hx)
      show roomD (S.doms.set x fresh) < roomD S.doms
      unfold dS at hlt
      exact ar411 hlt this
theorem Path.ok {m : Nat} {S S' : SS} (p : Path m S S') (O : OKS m S) : OKS m S' ∧ S'.firsts = S.firsts ∧ S'.failed = S.failed ∧ (S' = S ∨ roomD S'.doms < roomD S.doms) ∧ S'.marks = S.marks ∧ S'.clash = S.clash := by
  induction p with
  | refl => exact ⟨O, rfl, rfl, .inl rfl, rfl, rfl⟩
  | step p s ih =>
    obtain ⟨O₁, a, b, c, d, e⟩ := ih
    obtain ⟨O₂, a', b', c', d', e'⟩ := s.ok O₁
    refine ⟨O₂, a'.trans a, b'.trans b, .inr ?_, d'.trans d, e'.trans e⟩
    rcases c with rfl | c
    · exact c'
    · exact ar412 c' c
theorem FailS.ok {m : Nat} {S S' : SS} (f : FailS m S S') (O : OKS m S) : OKS m S' ∧ S'.firsts = S.firsts ∧ S'.doms = S.doms ∧ S'.trail = S.trail ∧ S'.failed = true ∧ S'.marks = S.marks := by
  obtain ⟨x, s, j, r, hx, so, hv, _, rfl⟩ := f
  exact ⟨⟨O.toOKC, O.nw⟩, rfl, rfl, rfl, rfl, rfl⟩
theorem Res.okS {m : Nat} {S S' : SS} {b : Bool} (r : Res m S S' b) (O : OKS m S) : OKS m S' ∧ S'.firsts = S.firsts ∧ S'.marks = S.marks := by
  cases b with
  | true => exact ⟨(Path.ok r O).1, (Path.ok r O).2.1, (Path.ok r O).2.2.2.2.1⟩
  | false =>
    obtain ⟨S₁, p, f⟩ := r
    obtain ⟨O₁, a, _, _, d, _⟩ := p.ok O
    obtain ⟨O₂, a', _, _, _, d'⟩ := f.ok O₁
    exact ⟨O₂, a'.trans a, d'.trans d⟩
theorem Res.cons {m : Nat} {S S₁ S' : SS} {b : Bool} (p : Path m S S₁) (r : Res m S₁ S' b) : Res m S S' b := by
  cases b with
  | true => exact p.trans r
  | false => obtain ⟨S₂, p₂, f⟩ := r; exact ⟨S₂, p.trans p₂, f⟩
theorem Path.back {m : Nat} {S S₁ S' : SS} (a : Path m S S₁) (b : Path m S₁ S') (O : OKS m S) (e : S' = S) : S₁ = S := by
  rcases (a.ok O).2.2.2.1 with h | h
  · exact h
  · rcases (b.ok (a.ok O).1).2.2.2.1 with h' | h'
    · rw [← h', e]
    · rw [e] at h'; exact ar413 h h'
theorem strike_res {m : Nat} {S : SS} (O : OKS m S) {x : Nat} {s : Sg} {j : Int} {r : List Lit} (hx : x < m + 2) (hj : -3 ≤ j ∧ j ≤ 6) (so : Sound m S (x, s, j) r) (hr : r.length ≤ 900) :
    Res m S (enterS S (x, s, j) (some r)).1 (enterS S (x, s, j) (some r)).2 ∧ ((enterS S (x, s, j) (some r)).2 = true → (enterS S (x, s, j) (some r)).1 = S → ∀ v ∈ valsD (dS S x), meetsB s j v = true) := by
  rcases enter_cases O (why := some r) hx hj with ⟨h, e⟩ | ⟨h, e⟩ | ⟨fresh, hc, hne, hv, hlt, h1, h2, e⟩
  · rw [e]
    exact ⟨⟨S, .refl, x, s, j, r, hx, so, h, hr, rfl⟩, fun q => by cases q⟩
  · rw [e]
    exact ⟨Path.refl, fun _ _ => h⟩
  · rw [e]
    refine ⟨Path.step .refl (.mk hx so hc hne hv hlt h1 h2 hr), fun _ q => ?_⟩
    have := congrArg (fun S => S.trail.length) q
    simp at this
end Mine
end
section
open PySem PySem.W PySem.Calls PyProof.Rows
set_option maxRecDepth 100000
set_option linter.unusedVariables false
namespace Mine
theorem St.Le.putNew {σ σ' : St} {b : Addr} {x : AO} (l : σ.Le σ') (hb : σ b = none) : σ.Le (σ'.put b x) := fun q z e => by
  rw [St.put_ne (by rintro rfl; rw [hb] at e; cases e)]; exact l q z e
theorem St.Le.none {σ σ' : St} {b : Addr} (l : σ.Le σ') (h : σ' b = none) : σ b = none := by
  cases e : σ b with
  | none => rfl
  | some z => rw [l b z e] at h; cases h
noncomputable def lackU (m : Nat) (S : SS) (x : Nat) (v : Int) : List Lit := if hasD (dS S x) v = true then lackD (fS S (m + 1)) (dS S (m + 1)) ((m + 1 : Nat) : Int) v else lackD (fS S x) (dS S x) x v
noncomputable def whyU (m : Nat) (S : SS) (x : Nat) : List Lit := (valsD (fS S (m + 1))).flatMap (lackU m S x)
theorem flat_len {α : Type} {f : α → List Lit} (h : ∀ a, (f a).length ≤ 1) : ∀ l : List α, (l.flatMap f).length ≤ l.length
  | [] => by simp
  | a :: l => by
    have := h a
    have := flat_len h l
    rw [List.flatMap_cons, List.length_append, List.length_cons]; exact ar40 (by assumption) this
theorem lackU_len (m : Nat) (S : SS) (x : Nat) (v : Int) : (lackU m S x v).length ≤ 1 := by
  unfold lackU; split <;> exact lackD_len ..
section
variable {y : Sy} {n : Nat} {σ : St} {Q : V → St → Prop} {env : Env} {W : Str → Prop} {ρ : Env1} {a e d : Addr} {c : SC} {S : SS} {m : Nat}
theorem OKS.dget (O : OKS m S) {x : Nat} (hx : x < m + 2) : ∃ h : x < S.doms.length, S.doms[x] = dS S x := by
  have : x < S.doms.length := by rw [O.ld]; exact hx
  exact ⟨this, by simp [dS, this]⟩
theorem OKS.fget (O : OKS m S) {x : Nat} (hx : x < m + 2) : ∃ h : x < S.firsts.length, S.firsts[x] = fS S x := by
  have : x < S.firsts.length := by rw [O.lf]; exact hx
  exact ⟨this, by simp [fS, this]⟩
theorem OKS.dl (O : OKS m S) : S.doms.length ≤ 900 := by have := O.hm; rw [O.ld]; exact ar41 this
theorem OKS.fl (O : OKS m S) : S.firsts.length ≤ 900 := by have := O.hm; rw [O.lf]; exact ar41 this
theorem OKS.cd (O : OKS m S) {x : Nat} (hx : x < m + 2) : Can (dS S x) ∧ dS S x ≠ [] := O.dcan hx
theorem OKS.cf (O : OKS m S) {x : Nat} (hx : x < m + 2) : Can (fS S x) ∧ fS S x ≠ [] := O.fcan hx
theorem q_dom (H : Says y.B) (A : SA σ a c S) (O : OKS m S) {x : Nat} (hx : x < m + 2) (h : Q (dv (dS S x)) σ) : CallV y (n + 1) σ (.ref 141) [.val (.ref a), .int x] Q := by
  obtain ⟨h1, h2⟩ := O.dget hx
  exact CallK.v (s_dom_ok H A (by have := O.dl; exact ar42 this) h1 (by rw [h2]; exact h))
theorem q_initial (H : Says y.B) (A : SA σ a c S) (O : OKS m S) {x : Nat} (hx : x < m + 2) (h : Q (dv (fS S x)) σ) : CallV y (n + 1) σ (.ref 148) [.val (.ref a), .int x] Q := by
  obtain ⟨h1, h2⟩ := O.fget hx
  exact CallK.v (s_initial_ok H A (by have := O.fl; exact ar42 this) h1 (by rw [h2]; exact h))
theorem q_lacking (H : Says y.B) (A : SA σ a c S) (O : OKS m S) {x : Nat} (hx : x < m + 2) {v : Int} (h : ∀ b, σ b = none → Q (.val (.ref b)) (σ.put b (.list ((lackD (fS S x) (dS S x) x v).map lv)))) : CallV y (n + 3) σ (.ref 309) [.val (.ref a), .int x, .int v] Q := by
  obtain ⟨h1, h2⟩ := O.dget hx
  obtain ⟨h3, h4⟩ := O.fget hx
  have hc := O.cd hx
  refine CallK.v (lacking_ok H A (by have := O.dl; exact ar42 this) (by have := O.fl; exact ar42 this) h1 h3 (by rw [h2]; exact hc.1.small) (by rw [h2]; exact hc.2) fun b hb => ?_)
  rw [h2, h4]
  exact h b hb
theorem why_unlike_ok (H : Says y.B) (A : SA σ a c S) (Ee : EA σ e d m) (O : OKS m S) {x : Nat} (hx : x < m + 2) (h : ∀ (r : List Lit) σ', σ.Le σ' → (∀ l, l ∈ r ↔ l ∈ whyU m S x) → r.length ≤ 3 → Q (.tup (r.map lv)) σ') :
    CallK y (n + 5) σ (.ref 370) [.val (.ref e), .val (.ref a), .int x] Q := by
  refine K_fn (F_e_why_unlike H) (by kernel_rfl) rfl fun env he => ?_
  have hz : m + 1 < m + 2 := by exact Nat.le_refl _
  have hfz := O.cf hz
  have h3 := O.v3 (m + 1) (by exact ar44) hz
  refine XS_cons (X_assign (E_list ⟨by simp, fun b hb => T_var he ?_⟩))
  intro ρ
  have l1 : σ.Le (σ.put b (.list [])) := St.Le.put hb
  have hb1 : (σ.put b (.list [])) b = some (.list ((([] : List Int).flatMap (lackU m S x)).map lv)) := St.put_self ..
  generalize σ.put b (.list []) = σ₁ at l1 hb1 ⊢
  refine XS_cons (X_for (E_fcall he (globFact H (k := 5) (by rfl) (by rfl)) (F_values H).keeps ?_))
  refine E_smeth H (E_var he (u := .val (.ref a)) rfl ⟨rfl, A.le l1, ?_⟩) (F_s_initial H).keeps
  refine E_eattr H (u := .int ((m + 1 : Nat) : Int)) (E_var he (u := .val (.ref e)) rfl ⟨rfl, Ee.le l1, ?_⟩) rfl
  refine q_initial H (A.le l1) O hz (CallK.v (values_ok H hfz.1.small fun vl σ₂ hvl l2 e2 => ⟨intVs (valsD (fS S (m + 1))), ?_⟩))
  have hbv : b ≠ vl := by rintro rfl; rw [hvl] at hb1; cases hb1
  refine FL_ind (fun xs ρ σ' => ∃ done rest : List Int, valsD (fS S (m + 1)) = done ++ rest ∧ xs = intVs rest ∧ ρ "found" = some (.val (.ref b)) ∧ ρ "store" = some (.val (.ref a)) ∧ ρ "self" = some (.val (.ref e)) ∧ ρ "x" = some (.int x) ∧ σ.Le σ' ∧
    σ' b = some (.list ((done.flatMap (lackU m S x)).map lv)) ∧ σ' vl = some (.list (intVs (valsD (fS S (m + 1)))))) ?_ ?_ _ _ _ ⟨[], valsD (fS S (m + 1)), rfl, rfl, rfl, rfl, rfl, rfl, l1.trans l2, l2 _ _ hb1, e2⟩
  · rintro ρ σ' ⟨done, rest, ed, er, eb, ea, es, ex, l, hb', hv'⟩
    have : rest = [] := by cases rest with | nil => rfl | cons _ _ => cases er
    subst this
    rw [List.append_nil] at ed
    subst ed
    refine ⟨.of hv', XS_cons (X_ret (E_fcall he (globFact H (k := 14) (by rfl) (by rfl)) (F_once_each H).keeps (E_var he (u := .val (.ref b)) eb ?_)))⟩
    exact CallK.v (once_each_ok H hb' (Nat.le_trans (flat_len (lackU_len m S x) _) h3) fun r σ'' l'' hm hl => h r σ'' (l.trans l'') hm hl)
  · rintro x' xs ρ σ' ⟨done, rest, ed, er, eb, ea, es, ex, l, hb', hv'⟩
    cases rest with
    | nil => cases er
    | cons v rest =>
      cases er
      have hdl : done.length ≤ 3 := by have := congrArg List.length ed; simp at this; unfold fS at this; exact ar45 h3 this
      refine ⟨.of hv', T_var he ?_⟩
      intro ρ
      refine XS_cons (X_expr (E_method (E_var he (u := .val (.ref b)) (by exact eb) ⟨_, _, G_list hb' PySem.F.slot_list_extend (ty_md _), keeps_builtin _ _, ?_⟩)))
      refine E_fcall he (globFact H (k := 13) (by rfl) (by rfl)) (F_lacking H).keeps (E_var he (u := .val (.ref a)) (by exact ea) ?_)
      obtain ⟨q, hq, eq, hcase⟩ : ∃ q, q < m + 2 ∧ lackU m S x v = lackD (fS S q) (dS S q) q v ∧ ((hasD (dS S x) v = true ∧ q = m + 1) ∨ (hasD (dS S x) v = false ∧ q = x)) := by
        unfold lackU
        cases hh : hasD (dS S x) v with
        | true => exact ⟨m + 1, hz, rfl, .inl ⟨rfl, rfl⟩⟩
        | false => exact ⟨x, hx, rfl, .inr ⟨rfl, rfl⟩⟩
      refine EV.mono (Q := fun z σ₃ => z = .int (q : Int) ∧ σ₃ = σ') (E_ifexp (B_not (B_val (E_fcall he (globFact H (k := 30) (by rfl) (by rfl)) (F_has H).keeps ?_)))) ?_
      · refine E_smeth H (E_var he (u := .val (.ref a)) (by exact ea) ⟨rfl, A.le l, E_var he (u := .int x) (by exact ex) ?_⟩) (F_s_dom H).keeps
        refine q_dom H (A.le l) O hx (E_var he (u := .int v) rfl (CallK.v (has_ok H ⟨_, rfl, fun hc => ?_, fun hc => ?_⟩)))
        · rcases hcase with ⟨h1, h2⟩ | ⟨h1, h2⟩
          · rw [h1] at hc; cases hc
          · exact E_var he (u := .int x) (by exact ex) ⟨by rw [h2], rfl⟩
        · rcases hcase with ⟨h1, h2⟩ | ⟨h1, h2⟩
          · exact E_eattr H (u := .int ((m + 1 : Nat) : Int)) (E_var he (u := .val (.ref e)) (by exact es) ⟨rfl, Ee.le l, ⟨by rw [h2], rfl⟩⟩) rfl
          · rw [h1] at hc; cases hc
      rintro _ _ ⟨rfl, rfl⟩
      refine E_var he (u := .int v) rfl (q_lacking H (A.le l) O hq fun b2 hb2 => ?_)
      have nb : b ≠ b2 := by rintro rfl; rw [hb'] at hb2; cases hb2
      have nv : vl ≠ b2 := by rintro rfl; rw [hv'] at hb2; cases hb2
      have fl := flat_len (lackU_len m S x) done
      refine L_extend ((St.put_ne nb).trans hb') (St.put_self ..) (by rw [List.length_map, List.length_map, ← eq]; have := lackU_len m S x v; exact ar46 hdl fl this) ?_
      refine XS_nil ⟨done ++ [v], rest, by rw [ed]; simp, rfl, by exact eb, by exact ea, by exact es, by exact ex, (l.trans (St.Le.put hb2)).putNew hb, ?_, ?_⟩
      · rw [St.put_self, ← eq]
        simp
      · rw [St.put_ne (Ne.symm hbv), St.put_ne nv]; exact hv'

noncomputable def lackN (m : Nat) (S : SS) (v : Int) (i : Nat) : List Lit := if hasD (dS S 0) (i : Int) = true then lackD (fS S i) (dS S i) i v else lackD (fS S 0) (dS S 0) ((0 : Nat) : Int) i
noncomputable def whyN (m : Nat) (S : SS) (v : Int) : List Lit := (cellsL m).flatMap (lackN m S v)
theorem lackN_len (m : Nat) (S : SS) (v : Int) (i : Nat) : (lackN m S v i).length ≤ 1 := by
  unfold lackN; split <;> exact lackD_len ..
theorem range1 (m : Nat) : Builtin.Range.small 1 ((m : Int) + 1) 1 = true → steps 1 1 m = natVs (cellsL m) := fun _ => by
  have key : ∀ (k : Nat) (a : Int), steps a 1 k = (List.range k).map fun (i : Nat) => V.int (a + i) := by
    intro k
    induction k with
    | zero => intro a; rfl
    | succ k ih =>
      intro a
      rw [steps, ih, List.range_succ_eq_map]
      simp [Function.comp_def]
      intro i _
      exact ar47
  rw [key]
  simp [natVs, cellsL, Function.comp_def]
  intro i _
  exact ar48
theorem item_cells {i : Nat} (hm : m ≤ 50) (h1 : 1 ≤ i) (h2 : i ≤ m) {k : Int} (hk : k = (i : Int) - 1) : Item y σ (.tup (natVs (cellsL m))) (.int k) (.int (i : Int)) := by
  subst hk
  refine item0 (j := i - 1) (by simp [natVs, cellsL]; exact ar49 hm) (by rw [seqIndex_pos (by exact ar50 h1) (by simp [natVs, cellsL] <;> exact ar51 h2)]; congr 1; exact ar52) ?_
  have : i - 1 < m := by exact ar53 h1 h2
  simp [natVs, cellsL, this]
  exact ar54 h1
theorem iter_1m (σ' : St) (hm : m ≤ 50) : IterOf y σ' (.rng 1 ((m : Int) + 1) 1) (natVs (cellsL m)) := by
  have hs : Builtin.Range.small 1 ((m : Int) + 1) 1 = true := small_one (by exact ar55) (by exact ar56) (by exact ar57) (by exact ar58 hm)
  refine ⟨hs, m, ?_, (range1 m hs).symm⟩
  rw [rangeSize_one]; split <;> (first | exact ar59 | exact ar60 (by assumption))
theorem why_nowhere_ok (H : Says y.B) (A : SA σ a c S) (Ee : EA σ e d m) (O : OKS m S) {v : Int} (h : ∀ (r : List Lit) σ', σ.Le σ' → (∀ l, l ∈ r ↔ l ∈ whyN m S v) → r.length ≤ 3 → Q (.tup (r.map lv)) σ') :
    CallK y (n + 5) σ (.ref 382) [.val (.ref e), .val (.ref a), .int v] Q := by
  refine K_fn (F_e_why_nowhere H) (by kernel_rfl) rfl fun env he => ?_
  have hm3 := O.hm.2
  refine XS_cons (X_assign (E_list ⟨by simp, fun b hb => T_var he ?_⟩))
  intro ρ
  have l1 : σ.Le (σ.put b (.list [])) := St.Le.put hb
  have hb1 : (σ.put b (.list [])) b = some (.list ((([] : List Nat).flatMap (lackN m S v)).map lv)) := St.put_self ..
  generalize σ.put b (.list []) = σ₁ at l1 hb1 ⊢
  refine XS_cons (X_for (E_fcall he (bltFact H (k := 3) (by rfl) (by rfl)) (keeps_type _ _) (E_int (E_binop (E_fcall he (bltFact H (k := 5) (by rfl) (by rfl)) (keeps_builtin _ _) ?_)))))
  refine E_eattr H (u := .tup (natVs (cellsL m))) (E_var he (u := .val (.ref e)) rfl ⟨rfl, Ee.le l1, ?_⟩) rfl
  refine C_len_tup (by simp [natVs, cellsL]; exact ar61 hm3) (E_int (O2_add (C_range2 ⟨natVs (cellsL m), ?_⟩)))
  have elen : (((natVs (cellsL m)).length : Nat) : Int) + 1 = (m : Int) + 1 := by simp [natVs, cellsL]
  rw [elen]
  refine FL_ind (fun xs ρ σ' => ∃ done rest : List Nat, cellsL m = done ++ rest ∧ xs = natVs rest ∧ ρ "found" = some (.val (.ref b)) ∧ ρ "store" = some (.val (.ref a)) ∧ ρ "self" = some (.val (.ref e)) ∧ ρ "v" = some (.int v) ∧ σ.Le σ' ∧
    σ' b = some (.list ((done.flatMap (lackN m S v)).map lv))) ?_ ?_ _ _ _ ⟨[], cellsL m, rfl, rfl, rfl, rfl, rfl, rfl, l1, hb1⟩
  · rintro ρ σ' ⟨done, rest, ed, er, eb, ea, es, ev, l, hb'⟩
    have : rest = [] := by cases rest with | nil => rfl | cons _ _ => cases er
    subst this
    rw [List.append_nil] at ed
    subst ed
    refine ⟨iter_1m σ' (by exact ar62 hm3), XS_cons (X_ret (E_fcall he (globFact H (k := 14) (by rfl) (by rfl)) (F_once_each H).keeps (E_var he (u := .val (.ref b)) eb ?_)))⟩
    exact CallK.v (once_each_ok H hb' (Nat.le_trans (flat_len (lackN_len m S v) _) (by simp [cellsL]; assumption)) fun r σ'' l'' hm hl => h r σ'' (l.trans l'') hm hl)
  · rintro x' xs ρ σ' ⟨done, rest, ed, er, eb, ea, es, ev, l, hb'⟩
    cases rest with
    | nil => cases er
    | cons i rest =>
      cases er
      have hi : i ∈ cellsL m := by rw [ed]; simp
      obtain ⟨hi1, him⟩ : 1 ≤ i ∧ i ≤ m := by
        unfold cellsL at hi
        obtain ⟨j, hj, rfl⟩ := List.mem_map.mp hi
        have := List.mem_range.mp hj
        exact ar64 this
      have hdl : done.length ≤ 3 := by have := congrArg List.length ed; simp [cellsL] at this; exact ar45 hm3 this
      refine ⟨iter_1m σ' (by exact ar62 hm3), T_var he ?_⟩
      intro ρ
      refine XS_cons (X_assign (E_fcall he (globFact H (k := 30) (by rfl) (by rfl)) (F_has H).keeps ?_))
      refine E_smeth H (E_var he (u := .val (.ref a)) (by exact ea) ⟨rfl, A.le l, E_eattr H (u := .int ((0 : Nat) : Int)) (E_var he (u := .val (.ref e)) (by exact es) ⟨rfl, Ee.le l, ?_⟩) rfl⟩) (F_s_dom H).keeps
      refine q_dom H (A.le l) O (x := 0) (by exact ar65) (E_var he (u := .int (i : Int)) rfl (CallK.v (has_ok H (T_var he ?_))))
      intro ρ
      refine XS_cons (X_expr (E_method (E_var he (u := .val (.ref b)) (by exact eb) ⟨_, _, G_list hb' PySem.F.slot_list_extend (ty_md _), keeps_builtin _ _, ?_⟩)))
      refine EV.mono (Q := fun z σ₃ => ∃ b2, σ' b2 = none ∧ z = .val (.ref b2) ∧ σ₃ = σ'.put b2 (.list ((lackN m S v i).map lv))) (E_ifexp (B_val (E_var he (u := .val (.bool (hasD (dS S 0) (i : Int)))) rfl ⟨_, rfl, fun hc => ?_, fun hc => ?_⟩))) ?_
      · refine E_fcall he (globFact H (k := 13) (by rfl) (by rfl)) (F_lacking H).keeps (E_var he (u := .val (.ref a)) (by exact ea) (E_sub ?_))
        refine E_eattr H (u := .tup (natVs (cellsL m))) (E_var he (u := .val (.ref e)) (by exact es) ⟨rfl, Ee.le l, E_binop (E_var he (u := .int (i : Int)) rfl (E_int (O2_sub ⟨.int (i : Int), item_cells (by exact ar62 hm3) hi1 him rfl, E_var he (u := .int v) (by exact ev) ?_⟩)))⟩) rfl
        refine q_lacking H (A.le l) O (by exact ar66 him) fun b2 hb2 => ⟨b2, hb2, rfl, ?_⟩
        unfold lackN; rw [if_pos hc]
      · refine E_fcall he (globFact H (k := 13) (by rfl) (by rfl)) (F_lacking H).keeps (E_var he (u := .val (.ref a)) (by exact ea) ?_)
        refine E_eattr H (u := .int ((0 : Nat) : Int)) (E_var he (u := .val (.ref e)) (by exact es) ⟨rfl, Ee.le l, E_var he (u := .int (i : Int)) rfl ?_⟩) rfl
        refine q_lacking H (A.le l) O (x := 0) (by exact ar65) fun b2 hb2 => ⟨b2, hb2, rfl, ?_⟩
        unfold lackN; rw [if_neg (by rw [hc]; simp)]
      rintro _ _ ⟨b2, hb2, rfl, rfl⟩
      have nb : b ≠ b2 := by rintro rfl; rw [hb'] at hb2; cases hb2
      have fl := flat_len (lackN_len m S v) done
      refine L_extend ((St.put_ne nb).trans hb') (St.put_self ..) (by rw [List.length_map, List.length_map]; have := lackN_len m S v i; exact ar46 hdl fl this) ?_
      refine XS_nil ⟨done ++ [i], rest, by rw [ed]; simp, rfl, by exact eb, by exact ea, by exact es, by exact ev, (l.trans (St.Le.put hb2)).putNew hb, ?_⟩
      rw [St.put_self]
      simp
end
end Mine
end
section
open PySem PySem.W PySem.Calls PyProof.Rows
set_option maxRecDepth 100000
set_option linter.unusedVariables false
namespace Mine
theorem ans_spec {m : Nat} {F : List Dom} {p : List Int} (h : AnsF m F p) : ∃ i : Nat, 1 ≤ i ∧ i ≤ m ∧ p.getD 0 0 = i ∧ p.getD i 0 = p.getD (m + 1) 0 := by
  obtain ⟨hl, _, ha⟩ := h
  unfold isAns at ha
  simp only [Bool.and_eq_true, decide_eq_true_eq, beq_iff_eq] at ha
  obtain ⟨⟨h1, h2⟩, h3⟩ := ha
  have e0 := pt_head (p := p) (by exact ar196 hl)
  rw [← e0] at h1 h2 h3
  obtain ⟨i, hi⟩ := Int.eq_ofNat_of_zero_le (a := p.getD 0 0) (by exact ar22 h1)
  have el : p.getLastD 0 = p.getD (m + 1) 0 := by
    rw [List.getLastD_eq_getLast?, List.getLast?_eq_getElem?, hl]
    simp
  rw [hi] at h1 h2 h3
  exact ⟨i, by exact ar414 h1, by exact ar415 hl h2, hi, by rw [← el]; simpa using h3⟩
theorem ans_of {m : Nat} {p : List Int} {i : Nat} (hl : p.length = m + 2) (h1 : 1 ≤ i) (h2 : i ≤ m) (h0 : p.getD 0 0 = i) (h3 : p.getD i 0 = p.getD (m + 1) 0) : isAns p = true := by
  unfold isAns
  have e0 := pt_head (p := p) (by exact ar196 hl)
  have el : p.getLastD 0 = p.getD (m + 1) 0 := by
    rw [List.getLastD_eq_getLast?, List.getLast?_eq_getElem?, hl]
    simp
  rw [← e0, el, h0]
  simp only [Bool.and_eq_true, decide_eq_true_eq, beq_iff_eq]
  exact ⟨⟨by exact ar416 h1, by exact ar417 hl h2⟩, by simpa using h3⟩
section
variable {m : Nat} {S : SS}
theorem sound_ge (O : OKS m S) : Sound m S ((0 : Nat), .ge, 1) [] := by
  have := O.hm
  refine ⟨⟨⟨by simp, by simp; exact ar418⟩, by simp⟩, by simp, fun p hp _ => ?_⟩
  obtain ⟨i, h1, h2, h3, _⟩ := ans_spec hp
  show decide ((1 : Int) ≤ p.getD 0 0) = true
  rw [h3]; exact decide_eq_true (by exact ar416 h1)
theorem sound_le (O : OKS m S) : Sound m S ((0 : Nat), .le, m) [] := by
  have := O.hm
  refine ⟨⟨⟨by simp, by simp; exact ar418⟩, by simp⟩, by simp, fun p hp _ => ?_⟩
  obtain ⟨i, h1, h2, h3, _⟩ := ans_spec hp
  show decide (p.getD 0 0 ≤ (m : Int)) = true
  rw [h3]; exact decide_eq_true (by exact ar419 h2)
theorem mem_of_getD {l : List Int} {x : Nat} (h : x < l.length) : l.getD x 0 ∈ l := getD_mem h
theorem lack_use (O : OKS m S) {q : Nat} (hq : q < m + 2) {w : Int} (hw : -1 ≤ w ∧ w ≤ 4) (hn : w ∉ valsD (dS S q)) {p : List Int} (hp : AnsF m S.firsts p) (hs : ∀ l ∈ lackD (fS S q) (dS S q) q w, litSat l p = true) : p.getD q 0 ≠ w := by
  intro e
  obtain ⟨h1, h2⟩ := lack_spec (x := (q : Int)) (O.cf hq).1 (O.cd hq).1 hw hn
  cases hl : lackD (fS S q) (dS S q) q w with
  | nil => exact h2 hl (by have := hp.2.1 q hq; rw [e] at this; exact this)
  | cons l r =>
    obtain ⟨a, _, b⟩ := h1 l (by rw [hl]; exact .head _)
    have := hs l (by rw [hl]; exact .head _)
    unfold litSat at this
    rw [a, Int.toNat_natCast, e, b] at this
    cases this
theorem lack_in (O : OKS m S) {q : Nat} (hq : q < m + 2) {w : Int} (hw : -1 ≤ w ∧ w ≤ 4) (hn : w ∉ valsD (dS S q)) {l : Lit} (hl : l ∈ lackD (fS S q) (dS S q) q w) : inR m l ∧ Holds S l := by
  obtain ⟨a, b, _⟩ := (lack_spec (x := (q : Int)) (O.cf hq).1 (O.cd hq).1 hw hn).1 l hl
  refine ⟨⟨by rw [a]; exact ar9, by rw [a]; exact ar199 hq⟩, ?_⟩
  unfold Holds
  rw [a, Int.toNat_natCast]
  exact b
theorem fv_rng (O : OKS m S) {q : Nat} (hq : q < m + 2) {w : Int} (h : w ∈ valsD (fS S q)) : -1 ≤ w ∧ w ≤ 4 := (O.cf hq).1.rng w h
theorem sound_unlike (O : OKS m S) {i : Nat} (h1 : 1 ≤ i) (h2 : i ≤ m) (hm : meetD (dS S i) (dS S (m + 1)) = []) {r : List Lit} (hr : ∀ l, l ∈ r ↔ l ∈ whyU m S i) : Sound m S ((0 : Nat), .ne, i) r := by
  have hm3 := O.hm
  have hi : i < m + 2 := by exact ar66 h2
  have hz : m + 1 < m + 2 := by exact Nat.le_refl _
  have hmm := ((O.cd hi).1.meet (O.cd hz).1).mp hm
  have key : ∀ v ∈ valsD (fS S (m + 1)), ∃ q, q < m + 2 ∧ (q = m + 1 ∨ q = i) ∧ v ∉ valsD (dS S q) ∧ lackU m S i v = lackD (fS S q) (dS S q) q v := fun v hv => by
    have hvr := fv_rng O hz hv
    unfold lackU
    rw [(O.cd hi).1.has (by exact ar81 hvr)]
    by_cases hh : v ∈ valsD (dS S i)
    · rw [decide_eq_true hh, if_pos rfl]
      exact ⟨m + 1, hz, .inl rfl, hmm v hh, rfl⟩
    · rw [decide_eq_false hh, if_neg (by simp)]
      exact ⟨i, hi, .inr rfl, hh, rfl⟩
  have inn : ∀ l ∈ r, inR m l ∧ Holds S l := fun l hl => by
    have := (hr l).mp hl
    unfold whyU at this
    obtain ⟨v, hv, hl'⟩ := List.mem_flatMap.mp this
    obtain ⟨q, hq, _, hn, e⟩ := key v hv
    rw [e] at hl'
    exact lack_in O hq (fv_rng O hz hv) hn hl'
  refine ⟨⟨⟨by simp, by simp; exact ar418⟩, fun l hl => (inn l hl).1⟩, fun l hl => (inn l hl).2, fun p hp hs => ?_⟩
  obtain ⟨j, j1, j2, j3, j4⟩ := ans_spec hp
  show (p.getD 0 0 != (i : Int)) = true
  rw [j3]
  simp only [bne_iff_ne, ne_eq]
  intro e
  have e : j = i := by exact ar208 e
  subst e
  have hw := hp.2.1 (m + 1) hz
  obtain ⟨q, hq, hqq, hn, e⟩ := key (p.getD (m + 1) 0) hw
  refine lack_use O hq (fv_rng O hz hw) hn hp (fun l hl => hs l ((hr l).mpr ?_)) ?_
  · unfold whyU
    exact List.mem_flatMap.mpr ⟨_, hw, by rw [e]; exact hl⟩
  · rcases hqq with rfl | rfl
    · rfl
    · exact j4
theorem mem_cells {i : Nat} : i ∈ cellsL m ↔ 1 ≤ i ∧ i ≤ m := by
  unfold cellsL
  rw [List.mem_map]
  constructor
  · rintro ⟨j, hj, rfl⟩; have := List.mem_range.mp hj; exact ar64 this
  · rintro ⟨a, b⟩; exact ⟨i - 1, List.mem_range.mpr (by exact ar53 a b), by exact ar420 a⟩
theorem sound_nowhere (O : OKS m S) {v : Int} (hv : -1 ≤ v ∧ v ≤ 4) (hn : ∀ i : Nat, 1 ≤ i → i ≤ m → (i : Int) ∈ valsD (dS S 0) → v ∉ valsD (dS S i)) {r : List Lit} (hr : ∀ l, l ∈ r ↔ l ∈ whyN m S v) : Sound m S ((m + 1 : Nat), .ne, v) r := by
  have hm3 := O.hm
  have h0 : 0 < m + 2 := by exact ar65
  have key : ∀ i, 1 ≤ i → i ≤ m → ((i : Int) ∈ valsD (dS S 0) ∧ lackN m S v i = lackD (fS S i) (dS S i) i v) ∨ ((i : Int) ∉ valsD (dS S 0) ∧ lackN m S v i = lackD (fS S 0) (dS S 0) ((0 : Nat) : Int) i) := fun i h1 h2 => by
    unfold lackN
    rw [(O.cd h0).1.has (by exact ar77 hm3 h2)]
    by_cases hh : (i : Int) ∈ valsD (dS S 0)
    · rw [decide_eq_true hh, if_pos rfl]; exact .inl ⟨hh, rfl⟩
    · rw [decide_eq_false hh, if_neg (by simp)]; exact .inr ⟨hh, rfl⟩
  have inn : ∀ l ∈ r, inR m l ∧ Holds S l := fun l hl => by
    have := (hr l).mp hl
    unfold whyN at this
    obtain ⟨i, hi, hl'⟩ := List.mem_flatMap.mp this
    obtain ⟨i1, i2⟩ := mem_cells.mp hi
    rcases key i i1 i2 with ⟨a, b⟩ | ⟨a, b⟩
    · rw [b] at hl'; exact lack_in O (by exact ar66 i2) hv (hn i i1 i2 a) hl'
    · rw [b] at hl'; exact lack_in O h0 (by exact ar421 hm3 i2) a hl'
  refine ⟨⟨⟨by lia, by lia⟩, fun l hl => (inn l hl).1⟩, fun l hl => (inn l hl).2, fun p hp hs => ?_⟩
  obtain ⟨j, j1, j2, j3, j4⟩ := ans_spec hp
  show (p.getD ((m + 1 : Nat) : Int).toNat 0 != v) = true
  rw [Int.toNat_natCast]
  simp only [bne_iff_ne, ne_eq]
  intro e
  have hs' : ∀ l ∈ lackN m S v j, litSat l p = true := fun l hl => hs l ((hr l).mpr (by unfold whyN; exact List.mem_flatMap.mpr ⟨j, mem_cells.mpr ⟨j1, j2⟩, hl⟩))
  rcases key j j1 j2 with ⟨a, b⟩ | ⟨a, b⟩
  · rw [b] at hs'
    exact lack_use O (by exact ar66 j2) hv (hn j j1 j2 a) hp hs' (by rw [j4, e])
  · rw [b] at hs'
    exact lack_use O h0 (by exact ar421 hm3 j2) a hp hs' j3
theorem sound_cell (O : OKS m S) {i : Nat} (h1 : 1 ≤ i) (h2 : i ≤ m) (h0 : valsD (dS S 0) = [(i : Int)]) {v : Int} (hv : -1 ≤ v ∧ v ≤ 4) (hn : v ∉ valsD (dS S (m + 1))) {r : List Lit}
    (hr : ∀ l, l ∈ r ↔ l ∈ (((0 : Nat) : Int), Sg.eq, (i : Int)) :: lackD (fS S (m + 1)) (dS S (m + 1)) ((m + 1 : Nat) : Int) v) : Sound m S ((i : Nat), .ne, v) r := by
  have hm3 := O.hm
  have hz : m + 1 < m + 2 := by exact Nat.le_refl _
  have inn : ∀ l ∈ r, inR m l ∧ Holds S l := fun l hl => by
    rcases List.mem_cons.mp ((hr l).mp hl) with rfl | hl
    · refine ⟨⟨by simp, by simp; exact ar418⟩, fun u hu => ?_⟩
      have hu : u ∈ valsD (dS S 0) := hu
      rw [h0, List.mem_singleton] at hu
      subst hu
      show ((i : Int) == (i : Int)) = true
      simp
    · exact lack_in O hz hv hn hl
  refine ⟨⟨⟨by lia, by lia⟩, fun l hl => (inn l hl).1⟩, fun l hl => (inn l hl).2, fun p hp hs => ?_⟩
  obtain ⟨j, j1, j2, j3, j4⟩ := ans_spec hp
  show (p.getD ((i : Nat) : Int).toNat 0 != v) = true
  rw [Int.toNat_natCast]
  simp only [bne_iff_ne, ne_eq]
  intro e
  have e0 := hs _ ((hr _).mpr (.head _))
  have e0 : (p.getD 0 0 == (i : Int)) = true := e0
  rw [j3] at e0
  have ej : j = i := by have := beq_iff_eq.mp e0; exact ar208 this
  subst ej
  exact lack_use O hz hv hn hp (fun l hl => hs l ((hr l).mpr (.tail _ hl))) (by rw [← j4, e])
end
end Mine
end
section
open PySem PySem.W PySem.Calls PyProof.Rows
set_option maxRecDepth 100000
set_option linter.unusedVariables false
namespace Mine
theorem dS_set {S : SS} {m : Nat} (O : OKS m S) {x z : Nat} {fresh : Dom} {t : List TE} {k : Nat} (hx : x < m + 2) : dS { S with doms := S.doms.set x fresh, trail := t, news := k } z = if z = x then fresh else dS S z := by
  unfold dS
  exact getD_set (by rw [O.ld]; exact hx)
theorem Step.sub {m : Nat} {S S' : SS} (st : Step m S S') (O : OKS m S) : ∀ x, ∀ v ∈ valsD (dS S' x), v ∈ valsD (dS S x) := by
  cases st with
  | mk hx so hc hne hv hlt h1 h2 hr =>
    intro z v hz
    rw [dS_set O hx] at hz
    split at hz
    · rename_i e
      subst e
      rw [hv] at hz
      exact (List.mem_filter.mp hz).1
    · exact hz
theorem Path.sub {m : Nat} {S S' : SS} (p : Path m S S') (O : OKS m S) : ∀ x, ∀ v ∈ valsD (dS S' x), v ∈ valsD (dS S x) := by
  induction p with
  | refl => exact fun _ _ h => h
  | step p s ih => exact fun x v h => ih x v (s.sub (p.ok O).1 x v h)
theorem strike_after {m : Nat} {S : SS} (O : OKS m S) {x : Nat} {s : Sg} {j : Int} {why : Option (List Lit)} (hx : x < m + 2) (hj : -3 ≤ j ∧ j ≤ 6) (h : (enterS S (x, s, j) why).2 = true) : ∀ v ∈ valsD (dS (enterS S (x, s, j) why).1 x), meetsB s j v = true := by
  rcases enter_cases O (why := why) hx hj with ⟨_, e⟩ | ⟨h', e⟩ | ⟨fresh, hc, hne, hv, hlt, h1, h2, e⟩
  · rw [e] at h; cases h
  · rw [e]; exact h'
  · rw [e]
    intro v hm
    have hm : v ∈ valsD (dS { S with doms := S.doms.set x fresh, trail := S.trail ++ [⟨dS S x, (x, s, j), why⟩], news := S.news + 1 } x) := hm
    rw [dS_set O hx, if_pos rfl, hv] at hm
    exact (List.mem_filter.mp hm).2
structure Done (m : Nat) (σ : St) (a : Addr) (c : SC) (S : SS) (σ' : St) (S' : SS) (b : Bool) : Prop where
  A : SA σ' a c S'
  fr : Fr a c σ c σ'
  ok : OKS m S'
  res : Res m S S' b
section
variable {y : Sy} {n : Nat} {σ : St} {Q : V → St → Prop} {env : Env} {W : Str → Prop} {ρ : Env1} {a e d : Addr} {c : SC} {S : SS} {m : Nat}
theorem q_strike (H : Says y.B) (A : SA σ a c S) (O : OKS m S) {x : Nat} {s : Sg} {j : Int} {r : List Lit} (hx : x < m + 2) (hj : -3 ≤ j ∧ j ≤ 6) (hr : r.length ≤ 900) (so : Sound m S (x, s, j) r)
    (h : ∀ σ' S' b, Done m σ a c S σ' S' b → (b = true → ∀ v ∈ valsD (dS S' x), meetsB s j v = true) → (b = true → S' = S → ∀ v ∈ valsD (dS S x), meetsB s j v = true) → Q (.val (.bool b)) σ') : CallV y (n + 5) σ (.ref 211) [.val (.ref a), lv ((x : Int), s, j), .tup (r.map lv)] Q := by
  obtain ⟨h1, h2⟩ := O.dget hx
  have hw := O.w
  have hnw := O.nw
  obtain ⟨res, same⟩ := strike_res O hx hj so hr
  refine CallK.v (s_strike_ok H A (x := x) h1 (by have := O.dl; exact ar42 this) (by rw [h2]; exact (O.cd hx).1.small) (by exact ar67 hj) (by exact ar68 hw) (by exact ar69 hw hnw) hr fun σ' A' fr => ?_)
  exact h σ' _ _ ⟨A', fr, (res.okS O).1, res⟩ (fun hb => strike_after O hx hj hb) same
theorem EA'.done {σ σ' : St} {S S' : SS} {b : Bool} (Ee : EA' σ e d m a c) (D : Done m σ a c S σ' S' b) : EA' σ' e d m a c := Ee.fr D.fr
theorem Done.trans {σ σ₁ σ' : St} {S S₁ S' : SS} {b : Bool} (D : Done m σ a c S σ₁ S₁ true) (D' : Done m σ₁ a c S₁ σ' S' b) : Done m σ a c S σ' S' b := ⟨D'.A, D.fr.trans D'.fr, D'.ok, Res.cons D.res D'.res⟩
theorem Done.le {σ σ₁ σ' : St} {S S' : SS} {b : Bool} (l : σ.Le σ₁) (D : Done m σ₁ a c S σ' S' b) : Done m σ a c S σ' S' b := ⟨D.A, (Fr.le l).trans D.fr, D.ok, D.res⟩
noncomputable def PlacesC (m : Nat) (S : SS) : Prop := ∀ v ∈ valsD (dS S 0), ∃ i : Nat, v = i ∧ 1 ≤ i ∧ i ≤ m ∧ meetD (dS S i) (dS S (m + 1)) ≠ []
theorem strike_places_ok (H : Says y.B) (A : SA σ a c S) (Ee : EA' σ e d m a c) (O : OKS m S) (h : ∀ σ' S' b, Done m σ a c S σ' S' b → (b = true → ∀ v ∈ valsD (dS S' 0), ∃ i : Nat, v = i ∧ 1 ≤ i ∧ i ≤ m) → (b = true → S' = S → PlacesC m S) → Q (.val (.bool b)) σ') :
    CallK y (n + 6) σ (.ref 363) [.val (.ref e), .val (.ref a)] Q := by
  refine K_fn (F_e_strike_places H) (by kernel_rfl) rfl fun env he => ?_
  have hm3 := O.hm
  have h0 : 0 < m + 2 := by exact ar65
  have hz : m + 1 < m + 2 := by exact Nat.le_refl _
  refine XS_cons (X_swap2 (a := "index") (b := "z") (by rw [swapped_env (env' := envS _) he]; rfl) (kd he) (kd he) (E_tuple ?_))
  refine E_eattr H (u := .int ((0 : Nat) : Int)) (E_var he (u := .val (.ref e)) rfl ⟨rfl, Ee.toEA, ?_⟩) rfl
  refine E_eattr H (u := .int ((m + 1 : Nat) : Int)) (E_var he (u := .val (.ref e)) rfl ⟨rfl, Ee.toEA, by simp, _, _, rfl, ?_⟩) rfl
  refine XS_cons (X_if (B_boolop ?_))
  refine B_not (B_val (E_smeth H (E_var he (u := .val (.ref a)) rfl ⟨rfl, A, E_tuple (E_var he (u := .int ((0 : Nat) : Int)) rfl (E_str (E_int ⟨by simp, E_tuple ⟨by simp, ?_⟩⟩)))⟩) (F_s_strike H).keeps))
  refine q_strike H A O (x := 0) (s := .ge) (j := 1) (r := []) h0 (by exact ar70) (by simp) (sound_ge O) fun σ₁ S₁ b₁ D₁ af₁ _ => ⟨_, rfl, ?_⟩
  cases b₁ with
  | false =>
    refine ⟨fun _ => XS_cons (X_ret (E_bool (h σ₁ S₁ false D₁ (fun q => by cases q) fun q => by cases q))), fun q => by cases q⟩
  | true =>
  have E₁ := Ee.done D₁
  refine B_not (B_val (E_smeth H (E_var he (u := .val (.ref a)) rfl ⟨rfl, D₁.A, E_tuple (E_var he (u := .int ((0 : Nat) : Int)) rfl (E_str (E_fcall he (bltFact H (k := 5) (by rfl) (by rfl)) (keeps_builtin _ _) ?_)))⟩) (F_s_strike H).keeps))
  refine E_eattr H (u := .tup (natVs (cellsL m))) (E_var he (u := .val (.ref e)) rfl ⟨rfl, E₁.toEA, ?_⟩) rfl
  refine C_len_tup (by simp [natVs, cellsL]; exact ar71 hm3) ⟨by simp, E_tuple ⟨by simp, ?_⟩⟩
  rw [show (((natVs (cellsL m)).length : Nat) : Int) = (m : Int) from by simp [natVs, cellsL]]
  refine q_strike H D₁.A D₁.ok (x := 0) (s := .le) (j := (m : Int)) (r := []) h0 (by exact ar72 hm3) (by simp) (sound_le D₁.ok) fun σ₂ S₂ b₂ D₂' af₂ _ => ⟨_, rfl, ?_⟩
  have D₂ := D₁.trans D₂'
  cases b₂ with
  | false =>
    refine ⟨fun _ => XS_cons (X_ret (E_bool (h σ₂ S₂ false D₂ (fun q => by cases q) fun q => by cases q))), fun q => by cases q⟩
  | true =>
  show KIf _ _ _ _ _ _ _ _ _ _
  refine ⟨fun q => (by cases q), fun _ => XS_nil ?_⟩
  have E₂ := Ee.done D₂
  have p₂ : Path m S₁ S₂ := D₂'.res
  have rng₂ : ∀ v ∈ valsD (dS S₂ 0), ∃ i : Nat, v = i ∧ 1 ≤ i ∧ i ≤ m := fun v hv => by
    have h1 := of_decide_eq_true (af₁ rfl v (p₂.sub D₁.ok 0 v hv))
    have h2 := of_decide_eq_true (af₂ rfl v hv)
    exact ⟨v.toNat, by exact ar73 h1, by exact ar74 h1, by exact ar75 h2⟩
  refine XS_cons (X_for (E_fcall he (globFact H (k := 5) (by rfl) (by rfl)) (F_values H).keeps ?_))
  refine E_smeth H (E_var he (u := .val (.ref a)) rfl ⟨rfl, D₂.A, E_var he (u := .int ((0 : Nat) : Int)) rfl ?_⟩) (F_s_dom H).keeps
  refine q_dom H D₂.A D₂.ok h0 (CallK.v (values_ok H (D₂.ok.cd h0).1.small fun vl σ₃ hvl l₃ e₃ => ⟨intVs (valsD (dS S₂ 0)), ?_⟩))
  have hno : vl ∉ own a c := own_fresh D₂.A hvl
  refine FL_ind (fun xs ρ σ' => ∃ (St : SS) (rest : List Int), xs = intVs rest ∧ (∀ v ∈ rest, v ∈ valsD (dS S₂ 0)) ∧ Done m σ a c S σ' St true ∧ Path m S₂ St ∧ σ' vl = some (.list (intVs (valsD (dS S₂ 0)))) ∧ ρ "store" = some (.val (.ref a)) ∧ ρ "self" = some (.val (.ref e)) ∧ ρ "index" = some (.int ((0 : Nat) : Int)) ∧ ρ "z" = some (.int ((m + 1 : Nat) : Int)) ∧
    (St = S → ∀ v ∈ valsD (dS S 0), v ∈ rest ∨ ∃ i : Nat, v = i ∧ 1 ≤ i ∧ i ≤ m ∧ meetD (dS S i) (dS S (m + 1)) ≠ [])) ?_ ?_ _ _ _ ⟨S₂, _, rfl, fun _ h => h, ⟨D₂.A.le l₃, D₂.fr.trans (Fr.le l₃), D₂.ok, D₂.res⟩, .refl, e₃, rfl, rfl, rfl, rfl, fun q v hv => by rw [q]; exact .inl hv⟩
  · rintro ρ σ' ⟨St, rest, er, hin, D, pS, hv', ea, es, ei, ez, hfin⟩
    have : rest = [] := by cases rest with | nil => rfl | cons _ _ => cases er
    subst this
    refine ⟨.of hv', XS_cons (X_ret (E_bool (h σ' St true D (fun _ v hv => rng₂ v (pS.sub D₂.ok 0 v hv)) fun _ q v hv => ?_)))⟩
    rcases hfin q v hv with h | h
    · cases h
    · exact h
  · rintro x' xs ρ σ' ⟨St, rest, er, hin, D, pS, hv', ea, es, ei, ez, hfin⟩
    cases rest with
    | nil => cases er
    | cons v rest =>
      cases er
      obtain ⟨i, rfl, i1, i2⟩ := rng₂ v (hin _ (.head _))
      have Et := Ee.done D
      refine ⟨.of hv', T_var he ?_⟩
      refine XS_cons (EX.mono (Q := fun g ρ' σ₄ => (∃ S', Done m σ a c S σ₄ S' false ∧ g = .ret (.val (.bool false))) ∨ (g = .next ∧ ρ' = upd ρ "i" (.int (i : Int)) ∧ ∃ S', Done m σ a c S σ₄ S' true ∧ Path m St S' ∧ σ₄ vl = some (.list (intVs (valsD (dS S₂ 0)))) ∧ (S' = S → (i : Int) ∈ valsD (dS S 0) → meetD (dS S i) (dS S (m + 1)) ≠ []))) (X_if (B_compare (E_fcall he (globFact H (k := 9) (by rfl) (by rfl)) (F_meet H).keeps ?_))) ?_)
      · refine E_smeth H (E_var he (u := .val (.ref a)) (by exact ea) ⟨rfl, D.A, E_sub ?_⟩) (F_s_dom H).keeps
        refine E_eattr H (u := .tup (natVs (cellsL m))) (E_var he (u := .val (.ref e)) (by exact es) ⟨rfl, Et.toEA, E_binop (E_var he (u := .int (i : Int)) rfl (E_int (O2_sub ⟨.int (i : Int), item_cells (by exact ar76 hm3) i1 i2 rfl, ?_⟩)))⟩) rfl
        refine q_dom H D.A D.ok (x := i) (by exact ar66 i2) ?_
        refine E_smeth H (E_var he (u := .val (.ref a)) (by exact ea) ⟨rfl, D.A, E_var he (u := .int ((m + 1 : Nat) : Int)) (by exact ez) ?_⟩) (F_s_dom H).keeps
        refine q_dom H D.A D.ok hz (CallK.v (meet_ok H (D.ok.cd (by exact ar66 i2)).1.small (D.ok.cd hz).1.small fun σ₄ l₄ => E_tuple ⟨by simp, O2_eqD (E := []) ⟨_, rfl, fun hc => ?_, fun hc => ?_⟩⟩))
        · have hc := of_decide_eq_true hc
          have D₄ : Done m σ a c S σ₄ St true := ⟨D.A.le l₄, D.fr.trans (Fr.le l₄), D.ok, D.res⟩
          have E₄ := Ee.done D₄
          refine XS_cons (X_if (B_not (B_val (E_smeth H (E_var he (u := .val (.ref a)) (by exact ea) ⟨rfl, D₄.A, E_tuple (E_var he (u := .int ((0 : Nat) : Int)) (by exact ei) (E_str (E_var he (u := .int (i : Int)) rfl ⟨by simp, ?_⟩)))⟩) (F_s_strike H).keeps))))
          refine E_emeth H (E_var he (u := .val (.ref e)) (by exact es) ⟨rfl, E₄.toEA, E_var he (u := .val (.ref a)) (by exact ea) (E_sub ?_)⟩) (F_e_why_unlike H).keeps
          refine E_eattr H (u := .tup (natVs (cellsL m))) (E_var he (u := .val (.ref e)) (by exact es) ⟨rfl, E₄.toEA, E_binop (E_var he (u := .int (i : Int)) rfl (E_int (O2_sub ⟨.int (i : Int), item_cells (by exact ar76 hm3) i1 i2 rfl, ?_⟩)))⟩) rfl
          refine CallK.v (why_unlike_ok H D₄.A E₄.toEA D₄.ok (x := i) (by exact ar66 i2) fun r σ₅ l₅ hr hrl => ?_)
          have A₅ := D₄.A.le l₅
          refine q_strike H A₅ D₄.ok (x := 0) (s := .ne) (j := (i : Int)) (r := r) h0 (by exact ar77 hm3 i2) (by exact ar78 hrl) (sound_unlike D₄.ok i1 i2 hc hr) fun σ₆ S₆ b₆ D₆' _ same => ⟨_, rfl, ?_⟩
          have D₆ : Done m σ a c S σ₆ S₆ b₆ := D₄.trans (Done.le l₅ D₆')
          have hv₆ : σ₆ vl = some (.list (intVs (valsD (dS S₂ 0)))) := (D₆'.fr vl _ hno (l₅ _ _ (l₄ _ _ hv'))).1
          cases b₆ with
          | false => exact ⟨fun _ => XS_cons (X_ret (E_bool (.inl ⟨S₆, D₆, rfl⟩))), fun q => by cases q⟩
          | true =>
            refine ⟨fun q => (by cases q), fun _ => XS_nil (XS_nil (.inr ⟨rfl, rfl, S₆, D₆, D₆'.res, hv₆, fun q hi => ?_⟩))⟩
            have eS : St = S := Path.back D.res D₆'.res O q
            have := same rfl (q.trans eS.symm) (i : Int) (by rw [eS]; exact hi)
            have : ((i : Int) != (i : Int)) = true := this
            simp at this
        · have hc := of_decide_eq_false hc
          refine XS_nil (.inr ⟨rfl, rfl, St, ⟨D.A.le l₄, D.fr.trans (Fr.le l₄), D.ok, D.res⟩, .refl, l₄ _ _ hv', fun q _ => ?_⟩)
          rw [← q]; exact hc
      · rintro g ρ' σ₄ (⟨S', D', rfl⟩ | ⟨rfl, rfl, S', D', p', hv₄, hm'⟩)
        · exact h σ₄ S' false D' (fun q => by cases q) fun q => by cases q
        · refine XS_nil ⟨S', rest, rfl, fun v hv => hin v (.tail _ hv), D', pS.trans p', hv₄, by exact ea, by exact es, by exact ei, by exact ez, fun q v hv => ?_⟩
          have eS : St = S := Path.back D.res p' O q
          rcases hfin eS v hv with h | h
          · rcases List.mem_cons.mp h with rfl | h
            · exact .inr ⟨i, rfl, i1, i2, hm' q hv⟩
            · exact .inl h
          · exact .inr h
end
end Mine
end
section
open PySem PySem.W PySem.Calls PyProof.Rows
set_option maxRecDepth 100000
set_option linter.unusedVariables false
namespace Mine
noncomputable def IdxC (m : Nat) (S : SS) : Prop := ∀ v ∈ valsD (dS S 0), ∃ i : Nat, v = i ∧ 1 ≤ i ∧ i ≤ m
noncomputable def ValuesC (m : Nat) (S : SS) : Prop := ∀ v ∈ valsD (dS S (m + 1)), ∃ i : Nat, (i : Int) ∈ valsD (dS S 0) ∧ 1 ≤ i ∧ i ≤ m ∧ v ∈ valsD (dS S i)
noncomputable def CellC (m : Nat) (S : SS) : Prop := ∀ i : Nat, valsD (dS S 0) = [(i : Int)] → ∀ v ∈ valsD (dS S i), v ∈ valsD (dS S (m + 1))
theorem IdxC.path {m : Nat} {S S' : SS} (h : IdxC m S) (p : Path m S S') (O : OKS m S) : IdxC m S' := fun v hv => h v (p.sub O 0 v hv)
theorem only_one {D : Dom} (h : Can D) (hne : D ≠ []) {i : Int} (ha : ∀ v ∈ valsD D, v = i) : valsD D = [i] := by
  have hs := h.sorted
  have hn : valsD D ≠ [] := fun q => hne (h.nil.mpr q)
  match hl : valsD D, hn with
  | [v], _ => rw [ha v (by rw [hl]; simp)]
  | v :: w :: r, _ =>
    have a := ha v (by rw [hl]; simp)
    have b := ha w (by rw [hl]; simp)
    rw [hl] at hs
    have := (List.pairwise_cons.mp hs).1 w (by simp)
    exact ar79 a b this
section
variable {y : Sy} {n : Nat} {σ : St} {Q : V → St → Prop} {env : Env} {W : Str → Prop} {ρ : Env1} {a e d : Addr} {c : SC} {S : SS} {m : Nat}
theorem strike_values_ok (H : Says y.B) (A : SA σ a c S) (Ee : EA' σ e d m a c) (O : OKS m S) (hI : IdxC m S) (h : ∀ σ' S' b, Done m σ a c S σ' S' b → (b = true → S' = S → ValuesC m S) → Q (.val (.bool b)) σ') :
    CallK y (n + 6) σ (.ref 375) [.val (.ref e), .val (.ref a)] Q := by
  refine K_fn (F_e_strike_values H) (by kernel_rfl) rfl fun env he => ?_
  have hm3 := O.hm
  have h0 : 0 < m + 2 := by exact ar65
  have hz : m + 1 < m + 2 := by exact Nat.le_refl _
  refine XS_cons (X_for (E_fcall he (globFact H (k := 5) (by rfl) (by rfl)) (F_values H).keeps ?_))
  refine E_smeth H (E_var he (u := .val (.ref a)) rfl ⟨rfl, A, E_eattr H (u := .int ((m + 1 : Nat) : Int)) (E_var he (u := .val (.ref e)) rfl ⟨rfl, Ee.toEA, ?_⟩) rfl⟩) (F_s_dom H).keeps
  refine q_dom H A O hz (CallK.v (values_ok H (O.cd hz).1.small fun vl σ₁ hvl l₁ e₁ => ⟨intVs (valsD (dS S (m + 1))), ?_⟩))
  have hno : vl ∉ own a c := own_fresh A hvl
  refine FL_ind (fun xs ρ σ' => ∃ (Sq : SS) (rest : List Int), xs = intVs rest ∧ (∀ v ∈ rest, v ∈ valsD (dS S (m + 1))) ∧ Done m σ a c S σ' Sq true ∧ σ' vl = some (.list (intVs (valsD (dS S (m + 1))))) ∧ ρ "store" = some (.val (.ref a)) ∧ ρ "self" = some (.val (.ref e)) ∧
    (Sq = S → ∀ v ∈ valsD (dS S (m + 1)), v ∈ rest ∨ ∃ i : Nat, (i : Int) ∈ valsD (dS S 0) ∧ 1 ≤ i ∧ i ≤ m ∧ v ∈ valsD (dS S i))) ?_ ?_ _ _ _ ⟨S, _, rfl, fun _ h => h, ⟨A.le l₁, Fr.le l₁, O, Path.refl⟩, e₁, rfl, rfl, fun q v hv => .inl hv⟩
  · rintro ρ σ' ⟨Sq, rest, er, hin, D, hv', ea, es, hfin⟩
    have : rest = [] := by cases rest with | nil => rfl | cons _ _ => cases er
    subst this
    refine ⟨.of hv', XS_cons (X_ret (E_bool (h σ' Sq true D fun _ q v hv => ?_)))⟩
    rcases hfin q v hv with h | h
    · cases h
    · exact h
  · rintro x' xs ρ σ' ⟨Sq, rest, er, hin, D, hv', ea, es, hfin⟩
    cases rest with
    | nil => cases er
    | cons v rest =>
      cases er
      have hvr : -1 ≤ v ∧ v ≤ 4 := (O.cd hz).1.rng v (hin v (.head _))
      have Et := Ee.done D
      have hIt : IdxC m Sq := hI.path D.res O
      refine ⟨.of hv', T_var he ?_⟩
      refine XS_cons (EX.mono (Q := fun g ρ' σ₄ => (∃ S', Done m σ a c S σ₄ S' false ∧ g = .ret (.val (.bool false))) ∨ (g = .next ∧ ρ' = upd ρ "v" (.int v) ∧ ∃ S', Done m σ a c S σ₄ S' true ∧ Path m Sq S' ∧ σ₄ vl = some (.list (intVs (valsD (dS S (m + 1))))) ∧
        (S' = S → v ∈ valsD (dS S (m + 1)) → ∃ i : Nat, (i : Int) ∈ valsD (dS S 0) ∧ 1 ≤ i ∧ i ≤ m ∧ v ∈ valsD (dS S i)))) (X_if (B_not (B_val (E_fcall he (bltFact H (k := 9) (by rfl) (by rfl)) (keeps_builtin _ _) (E_comp1 (sck he) ?_))))) ?_)
      · refine E_fcall he (globFact H (k := 5) (by rfl) (by rfl)) (F_values H).keeps ?_
        refine E_smeth H (E_var he (u := .val (.ref a)) (by exact ea) ⟨rfl, D.A, E_eattr H (u := .int ((0 : Nat) : Int)) (E_var he (u := .val (.ref e)) (by exact es) ⟨rfl, Et.toEA, ?_⟩) rfl⟩) (F_s_dom H).keeps
        refine q_dom H D.A D.ok h0 (CallK.v (values_ok H (D.ok.cd h0).1.small fun vi σ₃ hvi l₃ e₃ => ⟨intVs (valsD (dS Sq 0)), fun cenv hc => ?_⟩))
        have hc := relabel_S he hc
        refine CL_pure (src := .val (.ref vi)) (all := intVs (valsD (dS Sq 0))) (σ₀ := σ₃) (p := fun _ => true) (F := fun x w _ => ∃ i : Nat, x = .int i ∧ w = .val (.bool (decide (v ∈ valsD (dS Sq i))))) (fun ρ => ρ "store" = some (.val (.ref a)) ∧ ρ "self" = some (.val (.ref e)) ∧ ρ "v" = some (.int v)) (fun x ρ => ρ "i" = some x)
          (fun σ' l => .of (l _ _ e₃)) (fun x v σ' σ'' h _ => h) _ ?_ ?_ ?_ [] _ σ₃ ⟨by show cRho _ _ _ = _; exact ea, by show cRho _ _ _ = _; exact es, by rfl⟩ (.refl _) (by
            have := (D.ok.cd h0).1
            obtain ⟨k, _, ek⟩ := this.vals
            rw [ek]
            have : (bitsV k).length ≤ 6 := by unfold bitsV; rw [List.length_map]; exact Nat.le_trans (List.length_filter_le ..) (by simp)
            simp [intVs]; exact ar80 this) ?_
        · intro x hx ρ σ' R hJ hl hR
          exact T_var hc (hR _ ⟨by rw [upd_ne (by decide)]; exact hJ.1, by rw [upd_ne (by decide)]; exact hJ.2.1, by rw [upd_ne (by decide)]; exact hJ.2.2⟩ (upd_self ..)) (fun h => by cases h)
        · intro x hx ρ σ' B hJ hG hl hB
          exact hB σ' (.refl _)
        · intro x hxm ρ σ' Q hJ hG _ hl hQ
          obtain ⟨i0, hi0, rfl⟩ := List.mem_map.mp hxm
          obtain ⟨i, rfl, i1, i2⟩ := hIt i0 hi0
          refine E_fcall hc (globFact H (k := 30) (by rfl) (by rfl)) (F_has H).keeps ?_
          refine E_smeth H (E_var hc (u := .val (.ref a)) hJ.1 ⟨rfl, D.A.le (l₃.trans hl), E_sub ?_⟩) (F_s_dom H).keeps
          refine E_eattr H (u := .tup (natVs (cellsL m))) (E_var hc (u := .val (.ref e)) hJ.2.1 ⟨rfl, Et.toEA.le (l₃.trans hl), E_binop (E_var hc (u := .int (i : Int)) hG (E_int (O2_sub ⟨.int (i : Int), item_cells (by exact ar76 hm3) i1 i2 rfl, ?_⟩)))⟩) rfl
          refine q_dom H (D.A.le (l₃.trans hl)) D.ok (x := i) (by exact ar66 i2) (E_var hc (u := .int v) hJ.2.2 (CallK.v (has_ok H ?_)))
          refine hQ _ σ' (.refl _) ⟨i, rfl, ?_⟩
          rw [(D.ok.cd (x := i) (by exact ar66 i2)).1.has (by exact ar81 hvr)]
        · intro vs ρ' σ₄ _ l₄ hlen hvs b hb
          have ev : vs = boolVs ((valsD (dS Sq 0)).map fun u => decide (v ∈ valsD (dS Sq u.toNat))) := by
            have e0 : (intVs (valsD (dS Sq 0))).filter (fun _ => true) = intVs (valsD (dS Sq 0)) := List.filter_eq_self.mpr fun _ _ => rfl
            rw [e0] at hlen hvs
            apply List.ext_getElem?
            intro j
            by_cases hj : j < (valsD (dS Sq 0)).length
            · obtain ⟨w, e1, i, e2, e3⟩ := hvs j (.int (valsD (dS Sq 0))[j]) (by simp [intVs, hj])
              rw [e1, e3]
              have : (valsD (dS Sq 0))[j] = (i : Int) := by injection e2
              simp [boolVs, hj, this]
            · rw [List.getElem?_eq_none (by rw [hlen]; simp [intVs]; exact ar4 hj), List.getElem?_eq_none (by simp [boolVs]; exact ar4 hj)]
          rw [List.nil_append, ev]
          have D₄ : Done m σ a c S (σ₄.put b (.list (boolVs ((valsD (dS Sq 0)).map fun u => decide (v ∈ valsD (dS Sq u.toNat)))))) Sq true := by
            have l := (l₃.trans l₄).trans (St.Le.put (x := .list (boolVs ((valsD (dS Sq 0)).map fun u => decide (v ∈ valsD (dS Sq u.toNat))))) hb)
            exact ⟨D.A.le l, D.fr.trans (Fr.le l), D.ok, D.res⟩
          have hv₄ : (σ₄.put b (.list (boolVs ((valsD (dS Sq 0)).map fun u => decide (v ∈ valsD (dS Sq u.toNat)))))) vl = some (.list (intVs (valsD (dS S (m + 1))))) := St.Le.put hb _ _ (l₄ _ _ (l₃ _ _ hv'))
          refine C_any (.of (St.put_self ..)) ⟨_, rfl, fun hc => ?_, fun hc => ?_⟩
          · have hn : ∀ i : Nat, 1 ≤ i → i ≤ m → (i : Int) ∈ valsD (dS Sq 0) → v ∉ valsD (dS Sq i) := fun i i1 i2 hi hv => by
              have : (((valsD (dS Sq 0)).map fun u => decide (v ∈ valsD (dS Sq u.toNat))).any id) = true := by
                rw [List.any_map, List.any_eq_true]
                exact ⟨_, hi, by simpa using hv⟩
              rw [this] at hc; cases hc
            generalize (σ₄.put b (.list (boolVs ((valsD (dS Sq 0)).map fun u => decide (v ∈ valsD (dS Sq u.toNat)))))) = σ₅ at *
            have E₄ := Ee.done D₄
            refine XS_cons (X_if (B_not (B_val (E_smeth H (E_var he (u := .val (.ref a)) (by exact ea) ⟨rfl, D₄.A, E_tuple ?_⟩) (F_s_strike H).keeps))))
            refine E_eattr H (u := .int ((m + 1 : Nat) : Int)) (E_var he (u := .val (.ref e)) (by exact es) ⟨rfl, E₄.toEA, E_str (E_var he (u := .int v) rfl ⟨by simp, ?_⟩)⟩) rfl
            refine E_emeth H (E_var he (u := .val (.ref e)) (by exact es) ⟨rfl, E₄.toEA, E_var he (u := .val (.ref a)) (by exact ea) (E_var he (u := .int v) rfl ?_)⟩) (F_e_why_nowhere H).keeps
            refine CallK.v (why_nowhere_ok H D₄.A E₄.toEA D₄.ok fun r σ₆ l₆ hr hrl => ?_)
            refine q_strike H (D₄.A.le l₆) D₄.ok (x := m + 1) (s := .ne) (j := v) (r := r) hz (by exact ar81 hvr) (by exact ar78 hrl) (sound_nowhere D₄.ok hvr hn hr) fun σ₇ S₇ b₇ D₇' _ same => ⟨_, rfl, ?_⟩
            have D₇ : Done m σ a c S σ₇ S₇ b₇ := D₄.trans (Done.le l₆ D₇')
            have hv₇ : σ₇ vl = some (.list (intVs (valsD (dS S (m + 1))))) := (D₇'.fr vl _ hno (l₆ _ _ hv₄)).1
            cases b₇ with
            | false => exact ⟨fun _ => XS_cons (X_ret (E_bool (.inl ⟨S₇, D₇, rfl⟩))), fun q => by cases q⟩
            | true =>
              refine ⟨fun q => (by cases q), fun _ => XS_nil (XS_nil (.inr ⟨rfl, rfl, S₇, D₇, D₇'.res, hv₇, fun q hi => ?_⟩))⟩
              have eS : Sq = S := Path.back D.res D₇'.res O q
              have := same rfl (q.trans eS.symm) v (by rw [eS]; exact hi)
              have : (v != v) = true := this
              simp at this
          · refine XS_nil (.inr ⟨rfl, rfl, Sq, D₄, .refl, hv₄, fun q hi => ?_⟩)
            have hc : (((valsD (dS Sq 0)).map fun u => decide (v ∈ valsD (dS Sq u.toNat))).any id) = true := by simpa using hc
            rw [List.any_map, List.any_eq_true] at hc
            obtain ⟨u, hu, hd⟩ := hc
            obtain ⟨i, rfl, i1, i2⟩ := hIt u hu
            rw [← q]
            exact ⟨i, hu, i1, i2, by simpa using hd⟩
      · rintro g ρ' σ₄ (⟨S', D', rfl⟩ | ⟨rfl, rfl, S', D', p', hv₄, hm'⟩)
        · exact h σ₄ S' false D' fun q => by cases q
        · refine XS_nil ⟨S', rest, rfl, fun v hv => hin v (.tail _ hv), D', hv₄, by exact ea, by exact es, fun q w hw => ?_⟩
          have eS : Sq = S := Path.back D.res p' O q
          rcases hfin eS w hw with h | h
          · rcases List.mem_cons.mp h with rfl | h
            · exact .inr (hm' q hw)
            · exact .inl h
          · exact .inr h
end
end Mine
end
section
open PySem PySem.W PySem.Calls PyProof.Rows
set_option maxRecDepth 100000
set_option linter.unusedVariables false
namespace Mine
section
variable {y : Sy} {n : Nat} {σ : St} {Q : V → St → Prop} {env : Env} {W : Str → Prop} {ρ : Env1} {a e d : Addr} {c : SC} {S : SS} {m : Nat}
theorem q_fixed (H : Says y.B) (A : SA σ a c S) (O : OKS m S) {x : Nat} (hx : x < m + 2) (h : Q (.val (.bool ((valsD (dS S x)).length == 1))) σ) : CallV y (n + 1) σ (.ref 176) [.val (.ref a), .int x] Q := by
  obtain ⟨h1, h2⟩ := O.dget hx
  refine CallK.v (s_is_fixed_ok H A (by have := O.dl; exact ar42 this) h1 (by rw [h2]; exact (O.cd hx).1.small) ?_)
  rw [h2, (O.cd hx).1.fixed]; exact h
theorem q_value (H : Says y.B) (A : SA σ a c S) (O : OKS m S) {x : Nat} (hx : x < m + 2) (h : Q (.int (lowD (dS S x))) σ) : CallV y (n + 1) σ (.ref 183) [.val (.ref a), .int x] Q := by
  obtain ⟨h1, h2⟩ := O.dget hx
  obtain ⟨p, D, eD⟩ := List.exists_cons_of_ne_nil (O.cd hx).2
  refine CallK.v (s_value_ok H A (by have := O.dl; exact ar42 this) h1 (p := p) (D := D) (by rw [h2]; exact eD) (by rw [← eD]; exact (O.cd hx).1.small) ?_)
  have : lowD (dS S x) = p.1 := by unfold lowD; rw [eD]; rfl
  rw [← this]; exact h
theorem strike_cell_ok (H : Says y.B) (A : SA σ a c S) (Ee : EA' σ e d m a c) (O : OKS m S) (hI : IdxC m S) (h : ∀ σ' S' b, Done m σ a c S σ' S' b → (b = true → S' = S → CellC m S) → Q (.val (.bool b)) σ') :
    CallK y (n + 6) σ (.ref 389) [.val (.ref e), .val (.ref a)] Q := by
  refine K_fn (F_e_strike_cell H) (by kernel_rfl) rfl fun env he => ?_
  have hm3 := O.hm
  have h0 : 0 < m + 2 := by exact ar65
  have hz : m + 1 < m + 2 := by exact Nat.le_refl _
  refine XS_cons (X_if (B_not (B_val (E_smeth H (E_var he (u := .val (.ref a)) rfl ⟨rfl, A, E_eattr H (u := .int ((0 : Nat) : Int)) (E_var he (u := .val (.ref e)) rfl ⟨rfl, Ee.toEA, ?_⟩) rfl⟩) (F_s_is_fixed H).keeps))))
  refine q_fixed H A O h0 ⟨_, rfl, fun hc => ?_, fun hc => XS_nil ?_⟩
  · refine XS_cons (X_ret (E_bool (h σ S true ⟨A, Fr.le (.refl _), O, Path.refl⟩ fun _ _ i hi => ?_)))
    rw [hi] at hc
    simp at hc
  have hc : (valsD (dS S 0)).length = 1 := by simpa using hc
  have hval := (O.cd h0).1.value hc
  obtain ⟨i, hi, i1, i2⟩ := hI (lowD (dS S 0)) (by rw [hval]; simp)
  rw [hi] at hval
  refine XS_cons (X_assign (E_smeth H (E_var he (u := .val (.ref a)) rfl ⟨rfl, A, E_eattr H (u := .int ((0 : Nat) : Int)) (E_var he (u := .val (.ref e)) rfl ⟨rfl, Ee.toEA, ?_⟩) rfl⟩) (F_s_value H).keeps))
  refine q_value H A O h0 (T_var he ?_)
  rw [hi]
  refine XS_cons (X_assign (E_sub ?_))
  refine E_eattr H (u := .tup (natVs (cellsL m))) (E_var he (u := .val (.ref e)) rfl ⟨rfl, Ee.toEA, E_binop (E_var he (u := .int (i : Int)) rfl (E_int (O2_sub ⟨.int (i : Int), item_cells (by exact ar76 hm3) i1 i2 rfl, T_var he ?_⟩)))⟩) rfl
  have hx : i < m + 2 := by exact ar66 i2
  refine XS_cons (X_for (E_fcall he (globFact H (k := 5) (by rfl) (by rfl)) (F_values H).keeps ?_))
  refine E_smeth H (E_var he (u := .val (.ref a)) rfl ⟨rfl, A, E_var he (u := .int (i : Int)) rfl ?_⟩) (F_s_dom H).keeps
  refine q_dom H A O hx (CallK.v (values_ok H (O.cd hx).1.small fun vl σ₁ hvl l₁ e₁ => ⟨intVs (valsD (dS S i)), ?_⟩))
  have hno : vl ∉ own a c := own_fresh A hvl
  refine FL_ind (fun xs ρ σ' => ∃ (Sq : SS) (rest : List Int), xs = intVs rest ∧ (∀ v ∈ rest, v ∈ valsD (dS S i)) ∧ Done m σ a c S σ' Sq true ∧ σ' vl = some (.list (intVs (valsD (dS S i)))) ∧ ρ "store" = some (.val (.ref a)) ∧ ρ "self" = some (.val (.ref e)) ∧ ρ "i" = some (.int (i : Int)) ∧ ρ "x" = some (.int (i : Int)) ∧
    (Sq = S → ∀ v ∈ valsD (dS S i), v ∈ rest ∨ v ∈ valsD (dS S (m + 1)))) ?_ ?_ _ _ _ ⟨S, _, rfl, fun _ h => h, ⟨A.le l₁, Fr.le l₁, O, Path.refl⟩, e₁, rfl, rfl, rfl, rfl, fun q v hv => .inl hv⟩
  · rintro ρ σ' ⟨Sq, rest, er, hin, D, hv', ea, es, ei, ex, hfin⟩
    have : rest = [] := by cases rest with | nil => rfl | cons _ _ => cases er
    subst this
    refine ⟨.of hv', XS_cons (X_ret (E_bool (h σ' Sq true D fun _ q j hj v hv => ?_)))⟩
    have ej : j = i := by rw [hval] at hj; simp at hj; exact ar82 hj
    subst ej
    rcases hfin q v hv with h | h
    · cases h
    · exact h
  · rintro x' xs ρ σ' ⟨Sq, rest, er, hin, D, hv', ea, es, ei, ex, hfin⟩
    cases rest with
    | nil => cases er
    | cons v rest =>
      cases er
      have hvr : -1 ≤ v ∧ v ≤ 4 := (O.cd hx).1.rng v (hin v (.head _))
      have Et := Ee.done D
      refine ⟨.of hv', T_var he ?_⟩
      refine XS_cons (EX.mono (Q := fun g ρ' σ₄ => (∃ S', Done m σ a c S σ₄ S' false ∧ g = .ret (.val (.bool false))) ∨ (g = .next ∧ (ρ' "store" = some (.val (.ref a)) ∧ ρ' "self" = some (.val (.ref e)) ∧ ρ' "i" = some (.int (i : Int)) ∧ ρ' "x" = some (.int (i : Int))) ∧ ∃ S', Done m σ a c S σ₄ S' true ∧ Path m Sq S' ∧ σ₄ vl = some (.list (intVs (valsD (dS S i)))) ∧
        (S' = S → v ∈ valsD (dS S i) → v ∈ valsD (dS S (m + 1))))) (X_if (B_not (B_val (E_fcall he (globFact H (k := 30) (by rfl) (by rfl)) (F_has H).keeps ?_)))) ?_)
      · refine E_smeth H (E_var he (u := .val (.ref a)) (by exact ea) ⟨rfl, D.A, E_eattr H (u := .int ((m + 1 : Nat) : Int)) (E_var he (u := .val (.ref e)) (by exact es) ⟨rfl, Et.toEA, ?_⟩) rfl⟩) (F_s_dom H).keeps
        refine q_dom H D.A D.ok hz (E_var he (u := .int v) rfl (CallK.v (has_ok H ?_)))
        rw [(D.ok.cd hz).1.has (by exact ar81 hvr)]
        refine ⟨_, rfl, fun hc => ?_, fun hc => ?_⟩
        · have hn : v ∉ valsD (dS Sq (m + 1)) := by simpa using hc
          refine XS_cons (X_assign (E_fcall he (globFact H (k := 14) (by rfl) (by rfl)) (F_once_each H).keeps (E_binop (E_list ?_))))
          refine E_tuple (E_eattr H (u := .int ((0 : Nat) : Int)) (E_var he (u := .val (.ref e)) (by exact es) ⟨rfl, Et.toEA, E_str (E_var he (u := .int (i : Int)) (by exact ei) ⟨by simp, by simp, fun b1 hb1 => ?_⟩)⟩) rfl)
          have l₂ : σ'.Le (σ'.put b1 (.list [lv (((0 : Nat) : Int), Sg.eq, (i : Int))])) := St.Le.put hb1
          have e₂ : (σ'.put b1 (.list [lv (((0 : Nat) : Int), Sg.eq, (i : Int))])) b1 = some (.list [lv (((0 : Nat) : Int), Sg.eq, (i : Int))]) := St.put_self ..
          generalize hσ₂ : σ'.put b1 (.list [lv (((0 : Nat) : Int), Sg.eq, (i : Int))]) = σ₂ at l₂ e₂
          rw [show (V.tup [V.int ((0 : Nat) : Int), V.str "=", V.int (i : Int)]) = lv (((0 : Nat) : Int), Sg.eq, (i : Int)) from rfl, hσ₂]
          refine E_fcall he (globFact H (k := 13) (by rfl) (by rfl)) (F_lacking H).keeps (E_var he (u := .val (.ref a)) (by exact ea) ?_)
          refine E_eattr H (u := .int ((m + 1 : Nat) : Int)) (E_var he (u := .val (.ref e)) (by exact es) ⟨rfl, Et.toEA.le l₂, E_var he (u := .int v) rfl ?_⟩) rfl
          refine q_lacking H (D.A.le l₂) D.ok hz fun b2 hb2 => ?_
          have n12 : b1 ≠ b2 := by rintro rfl; rw [e₂] at hb2; cases hb2
          have ll := lackD_len (fS Sq (m + 1)) (dS Sq (m + 1)) ((m + 1 : Nat) : Int) v
          refine O2_addL ((St.put_ne n12).trans e₂) (St.put_self ..) (by simp only [List.length_map, List.length_cons, List.length_nil]; exact ar83 ll) fun b3 hb3 => ?_
          have l₃ := (l₂.trans (St.Le.put (x := .list ((lackD (fS Sq (m + 1)) (dS Sq (m + 1)) ((m + 1 : Nat) : Int) v).map lv)) hb2)).trans (St.Le.put (x := .list ([lv (((0 : Nat) : Int), Sg.eq, (i : Int))] ++ (lackD (fS Sq (m + 1)) (dS Sq (m + 1)) ((m + 1 : Nat) : Int) v).map lv)) hb3)
          refine CallK.v (once_each_ok H (ls := (((0 : Nat) : Int), Sg.eq, (i : Int)) :: lackD (fS Sq (m + 1)) (dS Sq (m + 1)) ((m + 1 : Nat) : Int) v) (by rw [St.put_self]; rfl) (by simp only [List.length_cons]; exact ar84 ll) fun r σ₆ l₆ hr hrl => T_var he ?_)
          have D₆ : Done m σ a c S σ₆ Sq true := by
            have l := l₃.trans l₆
            exact ⟨D.A.le l, D.fr.trans (Fr.le l), D.ok, D.res⟩
          have hv₆ : σ₆ vl = some (.list (intVs (valsD (dS S i)))) := l₆ _ _ (l₃ _ _ hv')
          have hvalq : valsD (dS Sq 0) = [(i : Int)] := only_one (D.ok.cd h0).1 (D.ok.cd h0).2 fun v hv => by
            have := Path.sub D.res O 0 v hv
            rw [hval] at this
            simpa using this
          refine XS_cons (X_if (B_not (B_val (E_smeth H (E_var he (u := .val (.ref a)) (by exact ea) ⟨rfl, D₆.A, E_tuple (E_var he (u := .int (i : Int)) (by exact ex) (E_str (E_var he (u := .int v) rfl ⟨by simp, E_var he (u := .tup (r.map lv)) rfl ?_⟩)))⟩) (F_s_strike H).keeps))))
          refine q_strike H D₆.A D₆.ok (x := i) (s := .ne) (j := v) (r := r) hx (by exact ar81 hvr) (by exact ar78 hrl) (sound_cell D₆.ok i1 i2 hvalq hvr hn hr) fun σ₇ S₇ b₇ D₇' _ same => ⟨_, rfl, ?_⟩
          have D₇ : Done m σ a c S σ₇ S₇ b₇ := D₆.trans D₇'
          have hv₇ : σ₇ vl = some (.list (intVs (valsD (dS S i)))) := (D₇'.fr vl _ hno hv₆).1
          cases b₇ with
          | false => exact ⟨fun _ => XS_cons (X_ret (E_bool (.inl ⟨S₇, D₇, rfl⟩))), fun q => by cases q⟩
          | true =>
            refine ⟨fun q => (by cases q), fun _ => XS_nil (XS_nil (.inr ⟨rfl, ⟨by exact ea, by exact es, by exact ei, by exact ex⟩, S₇, D₇, D₇'.res, hv₇, fun q hi => ?_⟩))⟩
            have eS : Sq = S := Path.back D.res D₇'.res O q
            have := same rfl (q.trans eS.symm) v (by rw [eS]; exact hi)
            have : (v != v) = true := this
            simp at this
        · have hn : v ∈ valsD (dS Sq (m + 1)) := by simpa using hc
          exact XS_nil (.inr ⟨rfl, ⟨by exact ea, by exact es, by exact ei, by exact ex⟩, Sq, D, .refl, hv', fun q _ => by rw [← q]; exact hn⟩)
      · rintro g ρ' σ₄ (⟨S', D', rfl⟩ | ⟨rfl, ⟨ea', es', ei', ex'⟩, S', D', p', hv₄, hm'⟩)
        · exact h σ₄ S' false D' fun q => by cases q
        · refine XS_nil ⟨S', rest, rfl, fun v hv => hin v (.tail _ hv), D', hv₄, ea', es', ei', ex', fun q w hw => ?_⟩
          have eS : Sq = S := Path.back D.res p' O q
          rcases hfin eS w hw with h | h
          · rcases List.mem_cons.mp h with rfl | h
            · exact .inr (hm' q hw)
            · exact .inl h
          · exact .inr h

structure ConsC (m : Nat) (S : SS) : Prop where
  places : PlacesC m S
  values : ValuesC m S
  cell : CellC m S
theorem roomS_eq (O : OKS m S) : roomS S (scopeL m) = (roomD S.doms : Int) := by
  have key : ∀ (l : List Dom), (∀ D ∈ l, Can D) → ((List.range l.length).map fun x => sizeD (l.getD x [])).sum = (roomD l : Int) := by
    intro l
    induction l with
    | nil => intro _; rfl
    | cons D l ih =>
      intro hc
      have := ih fun z hz => hc z (.tail _ hz)
      rw [List.length_cons, List.range_succ_eq_map, List.map_cons, List.sum_cons, List.map_map]
      have e : (fun x => sizeD ((D :: l).getD x [])) ∘ Nat.succ = fun x => sizeD (l.getD x []) := by funext x; simp
      rw [e, this]
      simp [roomD, (hc D (.head _)).size]
  unfold roomS scopeL
  rw [← O.ld]
  exact key S.doms fun D hD => (O.can D hD).1
theorem q_room (H : Says y.B) (A : SA σ a c S) (O : OKS m S) (h : ∀ σ', σ.Le σ' → Q (.int (roomD S.doms : Int)) σ') : CallV y (n + 3) σ (.ref 319) [.val (.ref a), .tup (natVs (scopeL m))] Q := by
  have hm := O.hm
  refine CallK.v (room_ok H A (by have := O.dl; exact ar42 this) (by simp [scopeL]; exact ar85 hm) (fun x hx => by unfold scopeL at hx; have := List.mem_range.mp hx; rw [O.ld]; exact this) (fun D hD => (O.can D hD).1.small) fun σ' l => ?_)
  rw [roomS_eq O]
  exact h σ' l
theorem propagate_ok (H : Says y.B) (A : SA σ a c S) (Ee : EA' σ e d m a c) (O : OKS m S) (h : ∀ σ' S' b, Done m σ a c S σ' S' b → (b = true → ConsC m S') → Q (.val (.bool b)) σ') :
    CallK y (n + 7) σ (.ref 356) [.val (.ref e), .val (.ref a)] Q := by
  refine K_fn (F_e_propagate H) (by kernel_rfl) rfl fun env he => ?_
  have hm3 := O.hm
  refine XS_cons (X_assign (E_unary (E_int (O1_neg (T_var he ?_)))))
  refine XS_cons (EX.mono (Q := fun g ρ' σ' => (∃ S', Done m σ a c S σ' S' false ∧ g = .ret (.val (.bool false))) ∨ (g = .next ∧ ∃ S', Done m σ a c S σ' S' true ∧ ConsC m S')) (X_while (fun k ρ σ' => ∃ (Sq : SS) (mn : Int), Done m σ a c S σ' Sq true ∧ ρ "self" = some (.val (.ref e)) ∧ ρ "store" = some (.val (.ref a)) ∧ ρ "many" = some (.int mn) ∧
    ((mn = (roomD Sq.doms : Int) ∧ ConsC m Sq ∧ k = 0) ∨ (mn ≠ (roomD Sq.doms : Int) ∧ k = roomD Sq.doms + 1))) ?_ (roomD S.doms + 1) ⟨S, -1, ⟨A, Fr.le (.refl _), O, Path.refl⟩, rfl, rfl, rfl, .inr ⟨by exact ar86, rfl⟩⟩) ?_)
  · rintro k ρ σ' ⟨Sq, mn, D, es, ea, em, hk⟩
    have Et := Ee.done D
    refine B_compare (E_var he em (E_fcall he (globFact H (k := 15) (by rfl) (by rfl)) (F_room H).keeps (E_var he (u := .val (.ref a)) ea ?_)))
    refine E_eattr H (u := .tup (natVs (scopeL m))) (E_var he (u := .val (.ref e)) es ⟨rfl, Et.toEA, ?_⟩) rfl
    refine q_room H D.A D.ok fun σ₁ l₁ => O2_nei ⟨_, rfl, fun hc => ?_, fun hc => ?_⟩
    · have hne : mn ≠ (roomD Sq.doms : Int) := by simpa using hc
      have hk : k = roomD Sq.doms + 1 := by
        rcases hk with ⟨q, _⟩ | ⟨_, q⟩
        · exact absurd q hne
        · exact q
      have D₁ : Done m σ a c S σ₁ Sq true := ⟨D.A.le l₁, D.fr.trans (Fr.le l₁), D.ok, D.res⟩
      have E₁ := Ee.done D₁
      refine XS_cons (X_assign (E_fcall he (globFact H (k := 15) (by rfl) (by rfl)) (F_room H).keeps (E_var he (u := .val (.ref a)) ea ?_)))
      refine E_eattr H (u := .tup (natVs (scopeL m))) (E_var he (u := .val (.ref e)) es ⟨rfl, E₁.toEA, ?_⟩) rfl
      refine q_room H D₁.A D₁.ok fun σ₂ l₂ => T_var he ?_
      have D₂ : Done m σ a c S σ₂ Sq true := ⟨D₁.A.le l₂, D₁.fr.trans (Fr.le l₂), D.ok, D.res⟩
      have E₂ := Ee.done D₂
      refine XS_cons (X_if (B_boolop ?_))
      refine B_not (B_val (E_emeth H (E_var he (u := .val (.ref e)) (by exact es) ⟨rfl, E₂.toEA, E_var he (u := .val (.ref a)) (by exact ea) ?_⟩) (F_e_strike_places H).keeps))
      refine CallK.v (strike_places_ok H D₂.A E₂ D₂.ok fun σ₃ S₃ b₃ D₃' hi₃ hp₃ => ⟨_, rfl, ?_⟩)
      have D₃ := D₂.trans D₃'
      cases b₃ with
      | false => exact ⟨fun _ => XS_cons (X_ret (E_bool (.inl ⟨S₃, D₃, rfl⟩))), fun q => by cases q⟩
      | true =>
      have E₃ := Ee.done D₃
      refine B_not (B_val (E_emeth H (E_var he (u := .val (.ref e)) (by exact es) ⟨rfl, E₃.toEA, E_var he (u := .val (.ref a)) (by exact ea) ?_⟩) (F_e_strike_values H).keeps))
      refine CallK.v (strike_values_ok H D₃.A E₃ D₃.ok (hi₃ rfl) fun σ₄ S₄ b₄ D₄' hp₄ => ⟨_, rfl, ?_⟩)
      have D₄ := D₃.trans D₄'
      cases b₄ with
      | false => exact ⟨fun _ => XS_cons (X_ret (E_bool (.inl ⟨S₄, D₄, rfl⟩))), fun q => by cases q⟩
      | true =>
      have E₄ := Ee.done D₄
      have hi₄ : IdxC m S₄ := IdxC.path (S := S₃) (hi₃ rfl) D₄'.res D₃.ok
      refine B_not (B_val (E_emeth H (E_var he (u := .val (.ref e)) (by exact es) ⟨rfl, E₄.toEA, E_var he (u := .val (.ref a)) (by exact ea) ?_⟩) (F_e_strike_cell H).keeps))
      refine CallK.v (strike_cell_ok H D₄.A E₄ D₄.ok hi₄ fun σ₅ S₅ b₅ D₅' hp₅ => ⟨_, rfl, ?_⟩)
      have D₅ := D₄.trans D₅'
      cases b₅ with
      | false => exact ⟨fun _ => XS_cons (X_ret (E_bool (.inl ⟨S₅, D₅, rfl⟩))), fun q => by cases q⟩
      | true =>
      show KIf _ _ _ _ _ _ _ _ _ _
      refine ⟨fun q => (by cases q), fun _ => XS_nil (XS_nil ?_)⟩
      have p35 : Path m S₃ S₅ := Path.trans D₄'.res D₅'.res
      have pq5 : Path m Sq S₅ := Path.trans D₃'.res p35
      rcases (pq5.ok D.ok).2.2.2.1 with hs | hs
      · have h3 : S₃ = Sq := Path.back D₃'.res p35 D.ok hs
        have h4 : S₄ = Sq := Path.back (Path.trans D₃'.res D₄'.res) D₅'.res D.ok hs
        refine ⟨0, by exact ar87 hk, S₅, _, D₅, by exact es, by exact ea, rfl, .inl ⟨by rw [hs], ?_, rfl⟩⟩
        rw [hs]
        refine ⟨hp₃ rfl h3, ?_, ?_⟩
        · have := hp₄ rfl (h4.trans h3.symm)
          rw [h3] at this; exact this
        · have := hp₅ rfl (hs.trans h4.symm)
          rw [h4] at this; exact this
      · exact ⟨roomD S₅.doms + 1, by exact ar88 hk hs, S₅, _, D₅, by exact es, by exact ea, rfl, .inr ⟨by exact ar89 hs, rfl⟩⟩
    · have heq : mn = (roomD Sq.doms : Int) := by simpa using hc
      have hcons : ConsC m Sq := by
        rcases hk with ⟨_, q, _⟩ | ⟨q, _⟩
        · exact q
        · exact absurd heq q
      exact .inr ⟨rfl, Sq, ⟨D.A.le l₁, D.fr.trans (Fr.le l₁), D.ok, D.res⟩, hcons⟩
  · rintro g ρ' σ' (⟨S', D', rfl⟩ | ⟨rfl, S', D', hc⟩)
    · exact h σ' S' false D' fun q => by cases q
    · exact XS_cons (X_ret (E_bool (h σ' S' true D' fun _ => hc)))
end
end Mine
end
section
open PySem PySem.W PySem.Calls PyProof.Rows
set_option maxRecDepth 100000
set_option linter.unusedVariables false
namespace Mine
noncomputable def datI (l : List Int) : List Dat := l.map .int
theorem datI_inj {l k : List Int} : datI l = datI k ↔ l = k := by
  unfold datI
  exact List.map_inj_right (fun a b h => by injection h)
theorem rdl_ints (y : Sy) (σ : St) (l : List Int) : RdL y σ (intVs l) (datI l) := by
  induction l with
  | nil => exact .nil
  | cons v l ih => exact .cons (.int _) ih
noncomputable def datP (ps : List (List Int)) : List Dat := ps.map fun p => .tuple (datI p)
theorem datP_inj {l k : List (List Int)} : datP l = datP k ↔ l = k := by
  unfold datP
  exact List.map_inj_right (fun a b h => datI_inj.mp (by injection h))
noncomputable def ptVs (ps : List (List Int)) : List V := ps.map ptv
theorem rdl_pts (y : Sy) (σ : St) (l : List (List Int)) : RdL y σ (ptVs l) (datP l) := by
  induction l with
  | nil => exact .nil
  | cons v l ih => exact .cons (.tup (rdl_ints y σ v)) ih
noncomputable def datL (ls : List (List Int)) : List Dat := ls.map fun p => .list (datI p)
theorem datL_inj {l k : List (List Int)} : datL l = datL k ↔ l = k := by
  unfold datL
  exact List.map_inj_right (fun a b h => datI_inj.mp (by injection h))
theorem okI (l : List Int) (k : Nat) (h : 1 ≤ k) : kqdOk k (.list (datI l)) = true := by
  obtain ⟨j, rfl⟩ : ∃ j, k = j + 1 := ⟨k - 1, by exact ar90 h⟩
  unfold datI kqdOk
  rw [List.all_map, List.all_eq_true]
  intro p _
  cases j <;> rfl
theorem okT (l : List Int) (k : Nat) (h : 1 ≤ k) : kqdOk k (.tuple (datI l)) = true := by
  obtain ⟨j, rfl⟩ : ∃ j, k = j + 1 := ⟨k - 1, by exact ar90 h⟩
  unfold datI kqdOk
  rw [List.all_map, List.all_eq_true]
  intro p _
  cases j <;> rfl
theorem okP (l : List (List Int)) (k : Nat) (h : 2 ≤ k) : kqdOk k (.list (datP l)) = true := by
  obtain ⟨j, rfl⟩ : ∃ j, k = j + 1 := ⟨k - 1, by exact ar91 h⟩
  unfold datP kqdOk
  rw [List.all_map, List.all_eq_true]
  intro p _
  exact okT p j (by exact ar92 h)
theorem okL (l : List (List Int)) (k : Nat) (h : 2 ≤ k) : kqdOk k (.list (datL l)) = true := by
  obtain ⟨j, rfl⟩ : ∃ j, k = j + 1 := ⟨k - 1, by exact ar91 h⟩
  unfold datL kqdOk
  rw [List.all_map, List.all_eq_true]
  intro p _
  exact okI p j (by exact ar92 h)
structure LL (σ : St) (b : Addr) (ls : List (List Int)) : Prop where
  at' : ∃ as : List Addr, σ b = some (.list (as.map fun a => .val (.ref a))) ∧ as.length = ls.length ∧ ∀ (i : Nat) (a : Addr) (l : List Int), as[i]? = some a → ls[i]? = some l → σ a = some (.list (intVs l))
theorem LL.le {σ σ' : St} {b : Addr} {ls : List (List Int)} (x : LL σ b ls) (l : σ.Le σ') : LL σ' b ls := by
  obtain ⟨as, h1, h2, h3⟩ := x.at'
  exact ⟨as, l _ _ h1, h2, fun i a k e e' => l _ _ (h3 i a k e e')⟩
theorem rdl_lists (y : Sy) (σ : St) : ∀ (as : List Addr) (ls : List (List Int)), as.length = ls.length → (∀ (i : Nat) (a : Addr) (l : List Int), as[i]? = some a → ls[i]? = some l → σ a = some (.list (intVs l))) → RdL y σ (as.map fun a => V.val (.ref a)) (datL ls)
  | [], [], _, _ => .nil
  | a :: as, l :: ls, hl, h => .cons (.list (.of (h 0 a l rfl rfl)) (rdl_ints y σ l)) (rdl_lists y σ as ls (by simpa using hl) fun i a k e e' => h (i + 1) a k (by simpa using e) (by simpa using e'))
  | [], _ :: _, hl, _ => by simp at hl
  | _ :: _, [], hl, _ => by simp at hl
section
variable {y : Sy} {n : Nat} {σ : St} {Q : V → St → Prop} {env : Env} {W : Str → Prop} {ρ : Env1} {a b : Addr}
theorem bool_is {c : Bool} {p : Prop} [Decidable p] (h : c = true ↔ p) : c = decide p := by
  by_cases q : p
  · rw [decide_eq_true q]; exact h.mpr q
  · rw [decide_eq_false q]
    cases c with
    | false => rfl
    | true => exact absurd (h.mp rfl) q
theorem list_dat {l k : List Dat} : Dat.list l = Dat.list k ↔ l = k := ⟨fun h => by injection h, fun h => by rw [h]⟩
theorem O2_eqI {l k : List Int} (ha : σ a = some (.list (intVs l))) (hb : σ b = some (.list (intVs k))) (h : Q (.val (.bool (decide (l = k)))) σ) : O2 y n σ (compareOp .Eq) (.val (.ref a)) (.val (.ref b)) Q :=
  O2_eq (.list (.of ha) (rdl_ints y σ l)) (.list (.of hb) (rdl_ints y σ k)) (okI l 9 (by exact ar93)) (okI k 9 (by exact ar93)) fun c hc => by
    rw [list_dat, datI_inj] at hc
    rw [bool_is hc]; exact h
theorem O2_neI {l k : List Int} (ha : σ a = some (.list (intVs l))) (hb : σ b = some (.list (intVs k))) (h : Q (.val (.bool (decide (l ≠ k)))) σ) : O2 y n σ (compareOp .NotEq) (.val (.ref a)) (.val (.ref b)) Q :=
  O2_ne (.list (.of ha) (rdl_ints y σ l)) (.list (.of hb) (rdl_ints y σ k)) (okI l 9 (by exact ar93)) (okI k 9 (by exact ar93)) fun c hc => by
    rw [Ne, list_dat, datI_inj] at hc
    rw [bool_is hc]; exact h
theorem O2_eqP {l k : List (List Int)} (ha : σ a = some (.list (ptVs l))) (hb : σ b = some (.list (ptVs k))) (h : Q (.val (.bool (decide (l = k)))) σ) : O2 y n σ (compareOp .Eq) (.val (.ref a)) (.val (.ref b)) Q :=
  O2_eq (.list (.of ha) (rdl_pts y σ l)) (.list (.of hb) (rdl_pts y σ k)) (okP l 9 (by exact ar94)) (okP k 9 (by exact ar94)) fun c hc => by
    rw [list_dat, datP_inj] at hc
    rw [bool_is hc]; exact h
theorem O2_neP {l k : List (List Int)} (ha : σ a = some (.list (ptVs l))) (hb : σ b = some (.list (ptVs k))) (h : Q (.val (.bool (decide (l ≠ k)))) σ) : O2 y n σ (compareOp .NotEq) (.val (.ref a)) (.val (.ref b)) Q :=
  O2_ne (.list (.of ha) (rdl_pts y σ l)) (.list (.of hb) (rdl_pts y σ k)) (okP l 9 (by exact ar94)) (okP k 9 (by exact ar94)) fun c hc => by
    rw [Ne, list_dat, datP_inj] at hc
    rw [bool_is hc]; exact h
theorem O2_neL {l k : List (List Int)} (ha : LL σ a l) (hb : LL σ b k) (h : Q (.val (.bool (decide (l ≠ k)))) σ) : O2 y n σ (compareOp .NotEq) (.val (.ref a)) (.val (.ref b)) Q := by
  obtain ⟨as, h1, h2, h3⟩ := ha.at'
  obtain ⟨bs, k1, k2, k3⟩ := hb.at'
  exact O2_ne (.list (.of h1) (rdl_lists y σ as l h2 h3)) (.list (.of k1) (rdl_lists y σ bs k k2 k3)) (okL l 9 (by exact ar94)) (okL k 9 (by exact ar94)) fun c hc => by
    rw [Ne, list_dat, datL_inj] at hc
    rw [bool_is hc]; exact h

noncomputable def lotG (base : Int) : Nat → Nat → Int → List Int
  | 0, _, _ => []
  | k + 1, j, left => (if left.fmod 2 = 1 then [base + j] else []) ++ lotG base k (j + 1) (left.fdiv 2)
noncomputable def lotL (cell base : Int) (many : Nat) : List Int := if lotG base many 0 cell ≠ [] then lotG base many 0 cell else [base + cell.fmod many]
theorem pyl {a : Int} {b : Int} (h : b = 2 ∨ b = 6 ∨ b = 7 ∨ b = 29 ∨ b = 40 ∨ b = 1 ∨ b = 3 ∨ b = 4) : Builtin.divisionGoesByPylong a b = false := by
  unfold Builtin.divisionGoesByPylong
  have : ¬ ((if b == 0 then 0 else b.natAbs.log2 / 30 + 1) > 300) := by
    rcases h with rfl | rfl | rfl | rfl | rfl | rfl | rfl | rfl <;> decide
  dsimp only
  rw [decide_eq_false this]; rfl
theorem rng_iter {σ' : St} {k : Nat} (hk : k ≤ 1000) : IterOf y σ' (.rng 0 (k : Int) 1) (steps 0 1 k) := by
  refine ⟨small_one (by exact ar95) (by exact ar96) (by exact ar97) (by exact ar98 hk), k, ?_, rfl⟩
  rw [rangeSize_one]; split <;> (first | exact ar99 | exact ar100 (by assumption))
theorem steps01 (k : Nat) : steps 0 1 k = natVs (List.range k) := by
  have key : ∀ (k : Nat) (a : Int), steps a 1 k = (List.range k).map fun (i : Nat) => V.int (a + i) := by
    intro k
    induction k with
    | zero => intro a; rfl
    | succ k ih =>
      intro a
      rw [steps, ih, List.range_succ_eq_map]
      simp [Function.comp_def]
      intro i _
      exact ar47
  rw [key]
  simp [natVs]
theorem law_lot_ok (H : Says y.B) {cell base : Int} {many : Nat} (hm : many ≤ 5) (h0 : many = 2 ∨ many = 3 ∨ many = 5) (h : ∀ b σ', σ b = none → σ.Le σ' → σ' b = some (.list (intVs (lotL cell base many))) → Q (.val (.ref b)) σ') :
    CallK y (n + 1) σ (.ref 402) [.int cell, .int base, .int (many : Int)] Q := by
  refine K_fn (F_law_lot H) (by kernel_rfl) rfl fun env he => ?_
  refine XS_cons (X_swap2 (a := "found") (b := "left") (by rw [swapped_env (env' := envS _) he]; rfl) (kd he) (kd he) (E_tuple (E_list ⟨by simp, fun b hb => ?_⟩)))
  refine E_var he (u := .int cell) rfl ⟨by simp, _, _, rfl, ?_⟩
  have l1 : σ.Le (σ.put b (.list [])) := St.Le.put hb
  have e1 : (σ.put b (.list [])) b = some (.list (intVs [])) := St.put_self ..
  generalize σ.put b (.list []) = σ₁ at l1 e1 ⊢
  refine XS_cons (X_for (E_fcall he (bltFact H (k := 3) (by rfl) (by rfl)) (keeps_type _ _) (E_var he (u := .int (many : Int)) rfl (C_range1 ⟨steps 0 1 many, ?_⟩))))
  refine FL_ind (fun xs ρ σ' => ∃ (j k : Nat) (left : Int) (acc : List Int), j + k = many ∧ xs = steps (j : Int) 1 k ∧ ρ "found" = some (.val (.ref b)) ∧ ρ "left" = some (.int left) ∧ ρ "base" = some (.int base) ∧ ρ "many" = some (.int (many : Int)) ∧ ρ "cell" = some (.int cell) ∧ σ.Le σ' ∧ σ' b = some (.list (intVs acc)) ∧ acc.length ≤ j ∧ acc ++ lotG base k j left = lotG base many 0 cell) ?_ ?_ _ _ _
    ⟨0, many, cell, [], by exact ar101, rfl, rfl, rfl, rfl, rfl, rfl, l1, e1, by simp, rfl⟩
  · rintro ρ σ' ⟨j, k, left, acc, hjk, ex, ef, el, eb, em, ec, l, hb', hal, hacc⟩
    have hk : k = 0 := by
      cases k with
      | zero => rfl
      | succ k => cases ex
    subst hk
    have hacc : acc = lotG base many 0 cell := by rw [← hacc]; simp [lotG]
    refine ⟨rng_iter (by exact ar102 hm), XS_cons (X_ret (E_ifexp (B_compare (E_var he ef (E_list ⟨by simp, fun b2 hb2 => ?_⟩))))) ⟩
    have nb : b ≠ b2 := by rintro rfl; rw [hb'] at hb2; cases hb2
    have l2 : σ'.Le (σ'.put b2 (.list [])) := St.Le.put hb2
    refine O2_neI (l := acc) (k := []) (l2 _ _ hb') (St.put_self ..) ⟨_, rfl, fun hc => ?_, fun hc => ?_⟩
    · have hc := of_decide_eq_true hc
      refine E_var he ef (h b _ hb (l.trans l2) ?_)
      unfold lotL
      rw [← hacc, if_pos hc]
      exact l2 _ _ hb'
    · have hc : ¬ acc ≠ [] := of_decide_eq_false hc
      refine E_list (E_binop (E_var he eb (E_binop (E_var he ec (E_var he em (O2_mod (by exact ar103 h0) (O2_add ⟨by simp, fun b3 hb3 => ?_⟩)))))))
      refine h b3 _ (l.none (l2.none hb3)) ((l.trans l2).trans (St.Le.put hb3)) ?_
      unfold lotL
      rw [← hacc, if_neg hc]
      exact St.put_self ..
  · rintro x xs ρ σ' ⟨j, k, left, acc, hjk, ex, ef, el, eb, em, ec, l, hb', hal, hacc⟩
    cases k with
    | zero => cases ex
    | succ k =>
      rw [steps] at ex
      cases ex
      refine ⟨rng_iter (by exact ar102 hm), T_var he ?_⟩
      rw [lotG] at hacc
      refine XS_cons (EX.mono (Q := fun g ρ' σ₂ => g = .next ∧ ∃ acc', ρ' = upd ρ "j" (.int (j : Int)) ∧ σ.Le σ₂ ∧ σ₂ b = some (.list (intVs acc')) ∧ acc'.length ≤ j + 1 ∧ acc' ++ lotG base k (j + 1) (left.fdiv 2) = lotG base many 0 cell)
        (X_if (B_compare (E_binop (E_var he (u := .int left) (by exact el) (E_int (O2_mod (by exact ar104) (E_int (O2_eqi ⟨_, rfl, fun hc => ?_, fun hc => ?_⟩)))))))) ?_)
      · have hc : left.fmod 2 = 1 := by simpa using hc
        rw [if_pos hc, ← List.append_assoc] at hacc
        refine XS_cons (X_expr (E_method (E_var he (u := .val (.ref b)) (by exact ef) ⟨_, _, G_list hb' PySem.F.slot_list_append (ty_md _), keeps_builtin _ _, ?_⟩)))
        refine E_binop (E_var he (u := .int base) (by exact eb) (E_var he (u := .int (j : Int)) rfl (O2_add (L_append hb' (by simp [intVs]; exact ar105 hm hal hjk) ?_))))
        refine XS_nil ⟨rfl, acc ++ [base + j], rfl, l.putNew hb, ?_, by simp; assumption, hacc⟩
        rw [St.put_self]; simp [intVs]
      · have hc : ¬ left.fmod 2 = 1 := by simpa using hc
        rw [if_neg hc, List.nil_append] at hacc
        exact XS_nil ⟨rfl, acc, rfl, l, hb', by exact ar107 hal, hacc⟩
      · rintro g ρ' σ₂ ⟨rfl, acc', rfl, l₂, e₂, hl₂, ha₂⟩
        refine XS_cons (X_assign (E_binop (E_var he (u := .int left) (by exact el) (E_int (O2_fdiv (by exact ar104) (pyl (by exact ar108)) (T_var he ?_))))))
        exact XS_nil ⟨j + 1, k, left.fdiv 2, acc', by exact ar109 hjk, by simp, by exact ef, rfl, by exact eb, by exact em, by exact ec, l₂, e₂, hl₂, ha₂⟩

theorem set_last {α : Type} {l : List α} (h : l ≠ []) (x : α) : l.set (l.length - 1) x = l.dropLast ++ [x] := by
  obtain ⟨r, a, rfl⟩ : ∃ r a, l = r ++ [a] := ⟨_, _, (List.dropLast_concat_getLast h).symm⟩
  simp [List.set_append]
theorem rangesG_len : ∀ (l : List Int) (acc : Dom), (rangesG l acc).length ≤ l.length + acc.length
  | [], acc => by simp [rangesG]
  | v :: l, acc => by
    unfold rangesG
    split
    · split
      · have := rangesG_len l (acc.dropLast ++ [(‹Int × Int›.1, v)])
        rename_i q hq _
        have hne : acc ≠ [] := by rintro rfl; cases hq
        have : 0 < acc.length := List.length_pos_iff.mpr hne
        simp at *
        exact ar110 this
      · have := rangesG_len l (acc ++ [(v, v)])
        simp at *
        exact ar111 this
    · have := rangesG_len l [(v, v)]
      simp at *
      exact ar112 this
theorem law_ranges_ok (H : Says y.B) {lot : List Int} (ha : σ a = some (.list (intVs lot))) (hz : lot.length ≤ 10) (h : ∀ σ', σ.Le σ' → Q (dv (ranges lot)) σ') : CallK y (n + 1) σ (.ref 409) [.val (.ref a)] Q := by
  refine K_fn (F_law_ranges H) (by kernel_rfl) rfl fun env he => ?_
  refine XS_cons (X_assign (E_list ⟨by simp, fun b hb => T_var he ?_⟩))
  have l1 : σ.Le (σ.put b (.list [])) := St.Le.put hb
  have e1 : (σ.put b (.list [])) b = some (.list (([] : Dom).map pv)) := St.put_self ..
  generalize σ.put b (.list []) = σ₁ at l1 e1 ⊢
  have nab : a ≠ b := by rintro rfl; rw [ha] at hb; cases hb
  refine XS_cons (X_for (E_var he rfl ⟨intVs lot, ?_⟩))
  refine FL_ind (fun xs ρ σ' => ∃ (rest : List Int) (acc : Dom), xs = intVs rest ∧ ρ "found" = some (.val (.ref b)) ∧ σ.Le σ' ∧ σ' b = some (.list (acc.map pv)) ∧ acc.length + rest.length ≤ 10 ∧ rangesG rest acc = ranges lot) ?_ ?_ _ _ _ ⟨lot, [], rfl, rfl, l1, e1, by simpa using hz, rfl⟩
  · rintro ρ σ' ⟨rest, acc, er, ef, l, hb', hl, hr⟩
    have : rest = [] := by cases rest with | nil => rfl | cons _ _ => cases er
    subst this
    have hr : acc = ranges lot := hr
    refine ⟨.of (l _ _ ha), XS_cons (X_ret (E_fcall he (bltFact H (k := 4) (by rfl) (by rfl)) (keeps_type _ _) (E_var he ef ?_)))⟩
    refine C_tuple_list (.of hb') (by simp; exact ar113 hl) ?_
    have := h _ l
    rw [← hr] at this; exact this
  · rintro x xs ρ σ' ⟨rest, acc, er, ef, l, hb', hl, hr⟩
    cases rest with
    | nil => cases er
    | cons v rest =>
      cases er
      have hl : acc.length + (rest.length + 1) ≤ 10 := hl
      refine ⟨.of (l _ _ ha), T_var he ?_⟩
      refine XS_cons (EX.mono (Q := fun g ρ' σ₂ => g = .next ∧ ρ' = upd ρ "v" (.int v) ∧ ∃ acc', σ.Le σ₂ ∧ σ₂ b = some (.list (acc'.map pv)) ∧ acc'.length + rest.length ≤ 10 ∧ rangesG rest acc' = ranges lot) (X_if (BV.mono (B := fun c σ₂ => σ.Le σ₂ ∧ σ₂ b = some (.list (acc.map pv)) ∧ (c = true ↔ ∃ q, acc.getLast? = some q ∧ q.2 = v - 1)) (B_boolop ?_) ?_)) ?_)
      · refine B_compare (E_var he (u := .val (.ref b)) (by exact ef) (E_list ⟨by simp, fun b2 hb2 => ?_⟩))
        have nb : b ≠ b2 := by rintro rfl; rw [hb'] at hb2; cases hb2
        have l2 : σ'.Le (σ'.put b2 (.list [])) := St.Le.put hb2
        have hbl := l2 _ _ hb'
        have ll := l.trans l2
        refine O2_ne (y := y) (.list (.of hbl) (rdl_dv y _ acc)) (.list (.of (St.put_self ..)) .nil) (?_ : kqdOk 9 (.list (acc.map fun p => Dat.tuple [.int p.1, .int p.2])) = true) (by rfl) fun c hc => ⟨c, rfl, ?_⟩
        · unfold kqdOk
          rw [List.all_map, List.all_eq_true]
          intro p _
          rfl
        have hc : c = true ↔ acc ≠ [] := by
          rw [hc, Ne, list_dat]
          simp
        cases c with
        | false =>
          refine ⟨ll, hbl, ⟨fun q => (by cases q), ?_⟩⟩
          rintro ⟨q, hq, _⟩
          have : acc = [] := by
            cases acc with
            | nil => rfl
            | cons _ _ => exact absurd (hc.mpr (by simp)) (by simp)
          rw [this] at hq; cases hq
        | true =>
          have hne : acc ≠ [] := hc.mp rfl
          have hlast : acc.getLast? = some (acc.getLast hne) := List.getLast?_eq_some_getLast hne
          have hpos := List.length_pos_iff.mpr hne
          refine B_compare (E_sub (E_sub (E_var he (u := .val (.ref b)) (by exact ef) (E_unary (E_int (O1_neg ⟨pv (acc.getLast hne), ⟨_, acc.length - 1, .of hbl, by simp; exact ar114 hl, ?_, ?_⟩, E_int ⟨_, item_pv (.inr ⟨rfl, rfl⟩), E_binop (E_var he (u := .int v) rfl (E_int (O2_sub (O2_eqi ⟨_, rfl, ?_⟩))))⟩⟩))))))
          · rw [seqIndex_neg (by exact ar11) (by simp; exact ar12 hpos)]; simp; exact ar13
          · rw [List.getElem?_map, ← List.getLast?_eq_getElem?, hlast]; rfl
          · cases hv : ((acc.getLast hne).2 == v - 1) with
            | true => exact ⟨ll, hbl, ⟨fun _ => ⟨_, hlast, by simpa using hv⟩, fun _ => rfl⟩⟩
            | false =>
              refine ⟨ll, hbl, ⟨fun q => (by cases q), ?_⟩⟩
              rintro ⟨q, hq, hq'⟩
              rw [hlast] at hq; cases hq
              rw [hq'] at hv
              simp at hv
      · rintro c σ₂ ⟨l₂, e₂, hcc⟩
        refine ⟨fun hc => ?_, fun hc => ?_⟩
        · obtain ⟨q, hq, hq'⟩ := hcc.mp hc
          have hne : acc ≠ [] := by rintro rfl; cases hq
          have hpos := List.length_pos_iff.mpr hne
          have hi : seqIndex? (-1) (acc.map pv).length = some (acc.length - 1) := by rw [seqIndex_neg (by exact ar11) (by simp; exact ar12 hpos)]; simp; exact ar13
          have hg : (acc.map pv)[acc.length - 1]? = some (pv q) := by rw [List.getElem?_map, ← List.getLast?_eq_getElem?, hq]; rfl
          refine XS_cons (X_assign (E_tuple (E_sub (E_sub (E_var he (u := .val (.ref b)) (by exact ef) (E_unary (E_int (O1_neg ⟨pv q, ⟨_, acc.length - 1, .of e₂, by simp; exact ar114 hl, hi, hg⟩, E_int ⟨_, item_pv (.inl ⟨rfl, rfl⟩), E_var he (u := .int v) rfl ⟨by simp, T_sub (E_var he (u := .val (.ref b)) (by exact ef) (E_unary (E_int (O1_neg ⟨b, _, -1, acc.length - 1, rfl, rfl, e₂, by simp; exact ar114 hl, hi, ?_⟩))))⟩⟩⟩))))))))
          refine XS_nil ⟨rfl, rfl, acc.dropLast ++ [(q.1, v)], l₂.putNew hb, ?_, by simp; exact ar115 hl, ?_⟩
          · rw [St.put_self]
            congr 2
            have : (acc.map pv).length = acc.length := by simp
            rw [← this, set_last (by simpa using hne), List.map_append, List.map_dropLast]
            rfl
          · rw [← hr]
            conv => rhs; unfold rangesG
            rw [hq]
            simp [hq']
        · have hn : ¬ ∃ q, acc.getLast? = some q ∧ q.2 = v - 1 := fun q => by rw [hcc.mpr q] at hc; cases hc
          refine XS_cons (X_expr (E_method (E_var he (u := .val (.ref b)) (by exact ef) ⟨_, _, G_list e₂ PySem.F.slot_list_append (ty_md _), keeps_builtin _ _, ?_⟩)))
          refine E_tuple (E_var he (u := .int v) rfl (E_var he (u := .int v) rfl ⟨by simp, L_append e₂ (by simp; exact ar114 hl) ?_⟩))
          refine XS_nil ⟨rfl, rfl, acc ++ [(v, v)], l₂.putNew hb, by rw [St.put_self]; simp, by simp; exact ar116 hl, ?_⟩
          rw [← hr]
          conv => rhs; unfold rangesG
          cases hg : acc.getLast? with
          | none =>
            have : acc = [] := by simpa using hg
            subst this; rfl
          | some q =>
            have : q.2 ≠ v - 1 := fun e => hn ⟨q, hg, e⟩
            simp [this]
      · rintro g ρ' σ₂ ⟨rfl, rfl, acc', l₂, e₂, hl₂, hr₂⟩
        exact XS_nil ⟨rest, acc', rfl, by exact ef, l₂, e₂, hl₂, hr₂⟩
end
end Mine
end
section
open PySem PySem.W PySem.Calls PyProof.Rows
set_option maxRecDepth 100000
set_option linter.unusedVariables false
namespace Mine
theorem steps_map (k : Nat) (a : Int) : steps a 1 k = intVs ((List.range k).map fun (i : Nat) => a + (i : Int)) := by
  induction k generalizing a with
  | zero => rfl
  | succ k ih =>
    rw [steps, ih, List.range_succ_eq_map]
    simp [intVs, Function.comp_def]
    intro i _
    exact ar47
section
variable {y : Sy} {n : Nat} {σ : St} {Q : V → St → Prop} {env : Env} {W : Str → Prop} {ρ : Env1} {a b : Addr}
theorem rng_iter2 {σ' : St} {p q : Int} (hp : -1000 ≤ p ∧ p ≤ 1000) (hq : -1000 ≤ q ∧ q ≤ 1000) : IterOf y σ' (.rng p q 1) (steps p 1 (q - p).toNat) := by
  refine ⟨small_one (by exact ar117 hp) (by exact ar118 hp) (by exact ar117 hq) (by exact ar118 hq), (q - p).toNat, ?_, rfl⟩
  rw [rangeSize_one]; split <;> (first | exact ar119 (by assumption) | exact ar120 (by assumption))
theorem CL_steps {S : Scope} {v : Str} {pv' pe : Pos} (he : env.scope = S) (hk : (S.names.lookup v == some .local || S.names.lookup v == some .cell) = true) (hw : S.names.lookup v = some .cell → W v) (hd : (v == ("__debug__" : Str)) = false) (hc' : (v == ("__classdict__" : Str)) = false)
    {src : V} {all : List V} (io : IterOf y σ src all) {post : List V → Env1 → St → Prop} : ∀ (k : Nat) (x : Int) (acc : List V) (ρ : Env1), acc.length + k ≤ 1000000 → (∀ ρ', post (acc ++ steps x 1 k) ρ' σ) →
      CL y n env W (.Name v pv') [] src all (P1 y n env (.Name v pe)) post (steps x 1 k) acc ρ σ
  | 0, x, acc, ρ, hz, hp => ⟨io, by have := hp ρ; rwa [steps, List.append_nil] at this⟩
  | k + 1, x, acc, ρ, hz, hp => by
    rw [steps]
    refine ⟨io, T_var he ?_ hw hk⟩
    intro ρ
    refine ⟨by exact ar121 hz, E_var he (u := .int x) (upd_self ..) ?_ (by simp only [Bool.or_eq_true, beq_iff_eq] at hk ⊢; exact .inl hk) hd hc'⟩
    refine CL_steps he hk hw hd hc' io k (x + 1) _ _ (by simp; exact ar2 hz) fun ρ' => ?_
    have := hp ρ'
    rw [steps] at this
    rw [List.append_assoc]; exact this
theorem TS.mono : ∀ (cs : List Expr) {ρ : Env1} {σ : St} {B B' : Bool → St → Prop}, TS y n env cs ρ σ B → (∀ b s, B b s → B' b s) → TS y n env cs ρ σ B'
  | [], ρ, σ, B, B', h, q => q _ _ h
  | c :: cs, ρ, σ, B, B', h, q => BV.mono h fun b s z => by
    cases b with
    | true => exact TS.mono cs z q
    | false => exact q _ _ z
theorem CL.mono {t : Expr} {ifs : List Expr} {src : V} {all : List V} {P : List V → Env1 → St → (List V → Env1 → St → Prop) → Prop} (hP : ∀ acc ρ σ p q, (∀ a r s, p a r s → q a r s) → P acc ρ σ p → P acc ρ σ q) {post post' : List V → Env1 → St → Prop} (hp : ∀ a r s, post a r s → post' a r s) :
    ∀ (xs acc : List V) (ρ : Env1) (σ : St), CL y n env W t ifs src all P post xs acc ρ σ → CL y n env W t ifs src all P post' xs acc ρ σ
  | [], acc, ρ, σ, h => ⟨h.1, hp _ _ _ h.2⟩
  | x :: xs, acc, ρ, σ, h => ⟨h.1, h.2.mono fun ρ' σ' z => TS.mono ifs z fun b s w => by
    cases b with
    | true => exact hP _ _ _ _ _ (fun a r s q => CL.mono hP hp xs a r s q) w
    | false => exact CL.mono hP hp xs _ _ _ w⟩
theorem P1_mono {elt : Expr} : ∀ acc ρ σ p q, (∀ a r s, p a r s → q a r s) → P1 y n env elt acc ρ σ p → P1 y n env elt acc ρ σ q := fun acc ρ σ p q h ⟨a, b⟩ => ⟨a, b.mono fun x s z => h _ _ _ z⟩
theorem P2_mono {t it elt : Expr} : ∀ acc ρ σ p q, (∀ a r s, p a r s → q a r s) → P2 y n env W t it elt acc ρ σ p → P2 y n env W t it elt acc ρ σ q := fun acc ρ σ p q h b => EV.mono b fun x s ⟨all, z⟩ => ⟨all, CL.mono P1_mono h _ _ _ _ z⟩
theorem CL_ind {t : Expr} {ifs : List Expr} {src : V} {all : List V} {P : List V → Env1 → St → (List V → Env1 → St → Prop) → Prop} (hP : ∀ acc ρ σ p q, (∀ a r s, p a r s → q a r s) → P acc ρ σ p → P acc ρ σ q) {post : List V → Env1 → St → Prop} (I : List V → List V → Env1 → St → Prop)
    (h0 : ∀ acc ρ σ, I [] acc ρ σ → IterOf y σ src all ∧ post acc ρ σ)
    (h1 : ∀ x xs acc ρ σ, I (x :: xs) acc ρ σ → IterOf y σ src all ∧ AT y n env W t x ρ σ fun ρ₁ σ₁ => TS y n env ifs ρ₁ σ₁ fun b σ₂ => match b with
      | true => P acc ρ₁ σ₂ fun acc' ρ₃ σ₃ => I xs acc' ρ₃ σ₃
      | false => I xs acc ρ₁ σ₂) : ∀ xs acc ρ σ, I xs acc ρ σ → CL y n env W t ifs src all P post xs acc ρ σ
  | [], acc, ρ, σ, h => h0 _ _ _ h
  | x :: xs, acc, ρ, σ, h => by
    obtain ⟨a, b⟩ := h1 x xs acc ρ σ h
    refine ⟨a, b.mono fun ρ' σ' z => TS.mono ifs z fun b s w => ?_⟩
    cases b with
    | true => exact hP _ _ _ _ _ (fun a r s q => CL_ind hP I h0 h1 xs a r s q) w
    | false => exact CL_ind hP I h0 h1 xs _ _ _ w
theorem valsD_cons (p : Int × Int) (D : Dom) : valsD (p :: D) = ((List.range (p.2 + 1 - p.1).toNat).map fun (i : Nat) => p.1 + (i : Int)) ++ valsD D := rfl
theorem law_spread_ok (H : Says y.B) {D : Dom} (hz : Small D) (h : ∀ b, σ b = none → Q (.val (.ref b)) (σ.put b (.list (intVs (valsD D))))) : CallK y (n + 1) σ (.ref 414) [dv D] Q := by
  refine K_fn (F_law_spread H) (by kernel_rfl) rfl fun env he => ?_
  refine XS_cons (X_ret (E_comp2 (sck he) (E_var he rfl ⟨D.map pv, fun cenv hc => ?_⟩)))
  have hc := relabel_S he hc
  refine CL_ind P2_mono (fun xs acc ρ σ' => ∃ (E : Dom) (ac : List Int), xs = E.map pv ∧ acc = intVs ac ∧ σ' = σ ∧ (∀ q ∈ E, q ∈ D) ∧ ac.length ≤ 300 * (D.length - E.length) ∧ E.length ≤ D.length ∧ ac ++ valsD E = valsD D) ?_ ?_ _ _ _ _ ⟨D, [], rfl, rfl, rfl, fun _ h => h, by simp, Nat.le_refl _, rfl⟩
  · rintro acc ρ _ ⟨E, ac, eE, rfl, rfl, _, _, _, e⟩
    have : E = [] := by cases E with | nil => rfl | cons _ _ => cases eE
    subst this
    rw [show valsD [] = [] from rfl, List.append_nil] at e
    subst e
    exact ⟨rfl, fun a ha => h a ha⟩
  · rintro x xs acc ρ _ ⟨E, ac, eE, rfl, rfl, hm, hl, hle, e⟩
    cases E with
    | nil => cases eE
    | cons q E =>
      cases eE
      obtain ⟨c1, c2, c3, c4⟩ := hz.2 q (hm q (.head _))
      have hz1 := hz.1
      rw [List.length_cons] at hl hle
      refine ⟨rfl, T_tup (T_var hc (T_var hc ?_ (fun h => by cases h)) (fun h => by cases h))⟩
      intro ρ
      show EV y n cenv _ _ _ _
      refine E_fcall hc (bltFact H (k := 3) (by rfl) (by rfl)) (keeps_type _ _) (E_var hc (u := .int q.1) rfl (E_binop (E_var hc (u := .int q.2) rfl (E_int (O2_add (C_range2 ⟨steps q.1 1 (q.2 + 1 - q.1).toNat, ?_⟩))))))
      have e1 : steps q.1 1 (q.2 + 1 - q.1).toNat = intVs ((List.range (q.2 + 1 - q.1).toNat).map fun (i : Nat) => q.1 + (i : Int)) := steps_map _ _
      refine CL_steps hc (by rfl) (fun h => by cases h) (by rfl) (by rfl) (rng_iter2 (by exact ar122 c1 c2) (by exact ar123 c3 c4)) _ _ _ _ (by simp [intVs]; exact ar124 hl c1 c4 hz1) fun ρ' => ?_
      rw [e1]
      refine ⟨E, ac ++ (List.range (q.2 + 1 - q.1).toNat).map fun (i : Nat) => q.1 + (i : Int), rfl, by simp [intVs], rfl, fun z hz => hm z (.tail _ hz), ?_, by exact ar125 hle, ?_⟩
      · rw [List.length_append, List.length_map, List.length_range]
        have : D.length - E.length = D.length - (E.length + 1) + 1 := by exact ar126 hle
        rw [this]
        exact ar127 hl c1 c4
      · rw [valsD_cons] at e
        rw [List.append_assoc]; exact e

theorem law_meets_ok (H : Says y.B) {l : Lit} {v : Int} (h : Q (.val (.bool (satB l v))) σ) : CallK y (n + 1) σ (.ref 421) [.int v, lv l] Q := by
  obtain ⟨x, s, k⟩ := l
  refine K_fn (F_law_meets H) (by kernel_rfl) rfl fun env he => ?_
  refine XS_cons (X_swap2 (a := "sign") (b := "k") (by rw [swapped_env (env' := envS _) he]; rfl) (kd he) (kd he) (E_tuple (E_sub (E_var he (u := lv (x, s, k)) rfl (E_int ⟨.str s.s, item0 (j := 1) (by simp) rfl rfl, ?_⟩)))))
  refine E_sub (E_var he (u := lv (x, s, k)) rfl (E_int ⟨.int k, item0 (j := 2) (by simp) rfl rfl, by simp, _, _, rfl, ?_⟩))
  refine XS_cons (X_if (B_compare (E_var he (u := .str s.s) rfl (E_str (O2_eqs ⟨_, rfl, fun h1 => ?_, fun h1 => XS_nil ?_⟩)))))
  · cases s <;> first | exact absurd h1 (by decide) | skip
    exact XS_cons (X_ret (E_compare (E_var he (u := .int v) rfl (E_var he (u := .int k) rfl (O2_le h)))))
  refine XS_cons (X_if (B_compare (E_var he (u := .str s.s) rfl (E_str (O2_eqs ⟨_, rfl, fun h2 => ?_, fun h2 => XS_nil ?_⟩)))))
  · cases s <;> first | exact absurd h2 (by decide) | skip
    exact XS_cons (X_ret (E_compare (E_var he (u := .int v) rfl (E_var he (u := .int k) rfl (O2_ge h)))))
  refine XS_cons (X_ret (E_ifexp (B_compare (E_var he (u := .str s.s) rfl (E_str (O2_eqs ⟨_, rfl, fun h3 => ?_, fun h3 => ?_⟩))))))
  · cases s <;> first | exact absurd h3 (by decide) | skip
    exact E_compare (E_var he (u := .int v) rfl (E_var he (u := .int k) rfl (O2_eqi h)))
  · cases s <;> first | exact absurd h1 (by decide) | exact absurd h2 (by decide) | exact absurd h3 (by decide) | skip
    exact E_compare (E_var he (u := .int v) rfl (E_var he (u := .int k) rfl (O2_nei h)))
end
end Mine
end
section
open PySem PySem.W PySem.Calls PyProof.Rows
set_option maxRecDepth 100000
set_option linter.unusedVariables false
namespace Mine
noncomputable def extendP (ps : List (List Int)) (lot : List Int) : List (List Int) := ps.flatMap fun p => lot.map fun v => p ++ [v]
noncomputable def pointsL (ls : List (List Int)) : List (List Int) := ls.foldl extendP [[]]
theorem extendP_len (ps : List (List Int)) (lot : List Int) : (extendP ps lot).length = ps.length * lot.length := by
  unfold extendP
  induction ps with
  | nil => simp
  | cons p ps ih => rw [List.flatMap_cons, List.length_append, ih, List.length_map, List.length_cons, Nat.succ_mul]; exact ar128
theorem points_len : ∀ (ls : List (List Int)) (ps : List (List Int)), (∀ l ∈ ls, l.length ≤ 6) → (ls.foldl extendP ps).length ≤ ps.length * 6 ^ ls.length
  | [], ps, _ => by simp
  | l :: ls, ps, h => by
    have := points_len ls (extendP ps l) fun z hz => h z (.tail _ hz)
    have hl := h l (.head _)
    rw [extendP_len] at this
    rw [List.foldl_cons, List.length_cons, Nat.pow_succ]
    refine Nat.le_trans this ?_
    calc ps.length * l.length * 6 ^ ls.length ≤ ps.length * 6 * 6 ^ ls.length := Nat.mul_le_mul_right _ (Nat.mul_le_mul_left _ hl)
      _ = ps.length * (6 ^ ls.length * 6) := by rw [Nat.mul_assoc, Nat.mul_comm 6]
theorem points_mem_len : ∀ (ls : List (List Int)) (ps : List (List Int)) (k : Nat), (∀ p ∈ ps, p.length = k) → ∀ p ∈ ls.foldl extendP ps, p.length = k + ls.length
  | [], ps, k, h, p, hp => by simpa using h p hp
  | l :: ls, ps, k, h, p, hp => by
    have := points_mem_len ls (extendP ps l) (k + 1) (fun q hq => by
      unfold extendP at hq
      obtain ⟨r, hr, hq⟩ := List.mem_flatMap.mp hq
      obtain ⟨v, _, rfl⟩ := List.mem_map.mp hq
      simp [h r hr]) p hp
    rw [this, List.length_cons]; exact ar129
section
variable {y : Sy} {n : Nat} {σ : St} {Q : V → St → Prop} {env : Env} {W : Str → Prop} {ρ : Env1} {a b : Addr}
theorem law_points_ok (H : Says y.B) {ls : List (List Int)} (hb : LL σ b ls) (hz : ls.length ≤ 5) (hl6 : ∀ l ∈ ls, l.length ≤ 6) (h : ∀ q σ', σ q = none → σ.Le σ' → σ' q = some (.list (ptVs (pointsL ls))) → Q (.val (.ref q)) σ') :
    CallK y (n + 1) σ (.ref 433) [.val (.ref b)] Q := by
  refine K_fn (F_law_points H) (by kernel_rfl) rfl fun env he => ?_
  obtain ⟨as, h1, h2, h3⟩ := hb.at'
  refine XS_cons (X_assign (E_list (E_tuple ⟨by simp, by simp, fun q hq => T_var he ?_⟩)))
  refine XS_cons (X_for (E_var he rfl ⟨as.map fun a => V.val (.ref a), ?_⟩))
  refine FL_ind (fun xs ρ σ' => ∃ (ad ar : List Addr) (ld lr : List (List Int)) (q : Addr), as = ad ++ ar ∧ ls = ld ++ lr ∧ ar.length = lr.length ∧ xs = (ar.map fun a => V.val (.ref a)) ∧ ρ "found" = some (.val (.ref q)) ∧ σ q = none ∧ σ.Le σ' ∧ σ' q = some (.list (ptVs (pointsL ld)))) ?_ ?_ _ _ _
    ⟨[], as, [], ls, q, rfl, rfl, h2, rfl, rfl, hq, St.Le.put hq, St.put_self ..⟩
  · rintro ρ σ' ⟨ad, ar, ld, lr, q, e1, e2, e3, e4, ef, hq, l, hq'⟩
    have : ar = [] := by cases ar with | nil => rfl | cons _ _ => cases e4
    subst this
    have : lr = [] := List.length_eq_zero_iff.mp e3.symm
    subst this
    rw [List.append_nil] at e2
    subst e2
    exact ⟨.of (l _ _ h1), XS_cons (X_ret (E_var he ef (h q σ' hq l hq')))⟩
  · rintro x xs ρ σ' ⟨ad, ar, ld, lr, q, e1, e2, e3, e4, ef, hq, l, hq'⟩
    cases ar with
    | nil => cases e4
    | cons ai ar =>
      cases lr with
      | nil => cases e3
      | cons li lr =>
        cases e4
        have hli : σ ai = some (.list (intVs li)) := by
          have hlen : ad.length = ld.length := by
            have a1 := congrArg List.length e1
            have a2 := congrArg List.length e2
            simp at a1 a2 e3
            exact ar130 h2 a1 a2 e3
          refine h3 ad.length ai li ?_ ?_
          · rw [e1]; simp
          · rw [e2, hlen]; simp
        have hmem : li ∈ ls := by rw [e2]; simp
        refine ⟨.of (l _ _ h1), T_var he ?_ (fun h => trivial)⟩
        have hpl : ∀ p ∈ pointsL ld, p.length = ld.length := fun p hp => by
          have := points_mem_len ld [[]] 0 (by simp) p hp
          simpa using this
        have hld : ld.length ≤ 5 := by have := congrArg List.length e2; simp at this; exact ar131 hz this
        have htot : (extendP (pointsL ld) li).length ≤ 100000 := by
          have := points_len (ld ++ [li]) [[]] (fun z hz => hl6 z (by rw [e2]; simp at hz ⊢; rcases hz with h | h; exact .inl h; exact .inr (.inl h)))
          rw [List.foldl_append] at this
          have h6 : 6 ^ (ld ++ [li]).length ≤ 6 ^ 5 := Nat.pow_le_pow_right (by exact ar132) (by have := congrArg List.length e2; simp at this ⊢; exact ar133 hz this)
          simp only [List.length_singleton, Nat.one_mul] at this
          have : (extendP (pointsL ld) li).length ≤ 6 ^ (ld ++ [li]).length := this
          exact ar134 h6 this
        refine XS_cons (X_comp2 (sck he) (by rw [swaps_env (env' := envS _) he]; rfl) (kd he) (E_var he (u := .val (.ref q)) (by exact ef) ⟨ptVs (pointsL ld), fun cenv hc => ?_⟩))
        have hc := relabel_S he hc
        refine CL_ind P2_mono (fun xs acc ρ' σ'' => ∃ (pd pr : List (List Int)), pointsL ld = pd ++ pr ∧ xs = ptVs pr ∧ acc = ptVs (extendP pd li) ∧ σ' = σ'' ∧ ρ' "lot" = some (.val (.ref ai))) ?_ ?_ _ _ _ _ ⟨[], pointsL ld, rfl, rfl, rfl, rfl, by rfl⟩
        · rintro acc ρ' _ ⟨pd, pr, ep, ex, rfl, rfl, elot⟩
          have : pr = [] := by cases pr with | nil => rfl | cons _ _ => cases ex
          subst this
          rw [List.append_nil] at ep
          subst ep
          refine ⟨.of hq', fun q2 hq2 => XS_nil ⟨ad ++ [ai], ar, ld ++ [li], lr, q2, by rw [e1]; simp, by rw [e2]; simp, by simpa using e3, rfl, upd_self .., l.none hq2, l.trans (St.Le.put hq2), ?_⟩⟩
          rw [St.put_self]
          unfold pointsL
          rw [List.foldl_append]
          rfl
        · rintro x xs acc ρ' _ ⟨pd, pr, ep, ex, rfl, rfl, elot⟩
          cases pr with
          | nil => cases ex
          | cons p pr =>
            cases ex
            have hp : p.length ≤ 5 := by rw [hpl p (by rw [ep]; simp)]; exact hld
            refine ⟨.of hq', T_var hc ?_ (fun h => by cases h)⟩
            show EV y n cenv _ _ _ _
            refine E_var hc (u := .val (.ref ai)) (by rw [upd_ne (by decide)]; exact elot) ⟨intVs li, ?_⟩
            have hall : (extendP pd li).length + li.length ≤ 100000 := by
              have : (extendP (pd ++ p :: pr) li).length ≤ 100000 := by rw [← ep]; exact htot
              unfold extendP at this ⊢
              rw [List.flatMap_append, List.flatMap_cons] at this
              simp only [List.length_append, List.length_map] at this
              exact ar135 this
            refine CL_ind P1_mono (fun xs acc ρ'' σ'' => ∃ (vd vr : List Int), li = vd ++ vr ∧ xs = intVs vr ∧ acc = ptVs (extendP pd li ++ vd.map fun v => p ++ [v]) ∧ σ' = σ'' ∧ ρ'' "lot" = some (.val (.ref ai)) ∧ ρ'' "point" = some (ptv p)) ?_ ?_ _ _ _ _ ⟨[], li, rfl, rfl, by simp, rfl, by rw [upd_ne (by decide)]; exact elot, upd_self ..⟩
            · rintro acc ρ'' _ ⟨vd, vr, ev, ex, rfl, rfl, elot', ept⟩
              have : vr = [] := by cases vr with | nil => rfl | cons _ _ => cases ex
              subst this
              rw [List.append_nil] at ev
              subst ev
              refine ⟨.of (l _ _ hli), pd ++ [p], pr, by rw [ep]; simp, rfl, ?_, rfl, elot'⟩
              congr 1
              unfold extendP
              rw [List.flatMap_append]
              simp
            · rintro x xs acc ρ'' _ ⟨vd, vr, ev, ex, rfl, rfl, elot', ept⟩
              cases vr with
              | nil => cases ex
              | cons v vr =>
                cases ex
                have hvl : vd.length ≤ li.length := by rw [ev]; simp
                refine ⟨.of (l _ _ hli), T_var hc ⟨by simp [ptVs]; exact ar136 hall hvl, ?_⟩ (fun h => by cases h)⟩
                refine E_binop (E_var hc (u := ptv p) (by rw [upd_ne (by decide)]; exact ept) (E_tuple (E_var hc (u := .int v) (upd_self ..) ⟨by simp, O2_addT (by simp [intVs]; exact ar137 hp) ?_⟩)))
                refine ⟨vd ++ [v], vr, by rw [ev]; simp, rfl, ?_, rfl, by rw [upd_ne (by decide)]; exact elot', by rw [upd_ne (by decide)]; exact ept⟩
                simp [ptVs, intVs]
end
end Mine
end
section
open PySem PySem.W PySem.Calls PyProof.Rows
set_option maxRecDepth 100000
set_option linter.unusedVariables false
namespace Mine
noncomputable def datLit (l : Lit) : Dat := .tuple [.int l.1, .str l.2.1.s, .int l.2.2]
theorem rdl_lits (y : Sy) (σ : St) (l : List Lit) : RdL y σ (l.map lv) (l.map datLit) := by
  induction l with
  | nil => exact .nil
  | cons v l ih => exact .cons (.tup (.cons (.int _) (.cons (.str _) (.cons (.int _) .nil)))) ih
noncomputable def keepL (ps : List (List Int)) (ls : List Lit) : List (List Int) := ps.filter fun p => ls.all fun l => litSat l p
noncomputable def holdB (lots : List (List Int)) (ls : List Lit) : Bool := ls.all fun l => (lots.getD l.1.toNat []).all (satB l)
noncomputable def nowL (S : SS) : List (List Int) := S.doms.map valsD
section
variable {y : Sy} {n : Nat} {σ : St} {Q : V → St → Prop} {env : Env} {W : Str → Prop} {ρ : Env1} {a b : Addr} {c : SC} {S : SS} {m : Nat}
theorem O2_eqNil {ls : List Lit} (ha : σ a = some (.list (ls.map lv))) (hb : σ b = some (.list [])) (h : Q (.val (.bool (decide (ls = [])))) σ) : O2 y n σ (compareOp .Eq) (.val (.ref a)) (.val (.ref b)) Q :=
  O2_eq (.list (.of ha) (rdl_lits y σ ls)) (.list (.of hb) .nil) (by
    unfold kqdOk
    rw [List.all_map, List.all_eq_true]
    intro p _
    obtain ⟨x, s, k⟩ := p
    cases s <;> (show ([Dat.int x, Dat.str _, Dat.int k].all (kqdOk 7)) = true; kernel_rfl)) (by rfl) fun c hc => by
    rw [list_dat, List.map_eq_nil_iff] at hc
    rw [bool_is hc]; exact h
theorem lit_idx {l : Lit} (h : inR m l) : ∃ i : Nat, l.1 = i ∧ i < m + 2 := by
  obtain ⟨i, hi⟩ := Int.eq_ofNat_of_zero_le h.1
  exact ⟨i, hi, by have := h.2; exact ar138 hi this⟩
theorem item_lit0 {l : Lit} : Item y σ (lv l) (.int 0) (.int l.1) := item0 (j := 0) (by simp) rfl rfl
theorem filter_vals {α : Type} {f : α → V} {l : List α} {p : α → Bool} {P : V → Bool} (hP : ∀ a, P (f a) = p a) : (l.map f).filter P = (l.filter p).map f := by
  induction l with
  | nil => rfl
  | cons a l ih => rw [List.map_cons, List.filter_cons, List.filter_cons, hP, ih]; split <;> rfl
noncomputable def onV {α : Type} (f : α → V) (p : α → Bool) : V → Bool := fun v => (@decide (∃ a, v = f a ∧ p a = true) (Classical.propDecidable _))
theorem onV_eq {α : Type} {f : α → V} (hf : ∀ a b, f a = f b → a = b) {p : α → Bool} (a : α) : onV f p (f a) = p a := by
  unfold onV
  cases h : p a with
  | true => exact @decide_eq_true _ (Classical.propDecidable _) ⟨a, rfl, h⟩
  | false => exact @decide_eq_false _ (Classical.propDecidable _) fun ⟨b, e, h'⟩ => by rw [← hf _ _ e, h] at h'; cases h'
theorem lv_inj {a b : Lit} (h : lv a = lv b) : a = b := by
  obtain ⟨a1, a2, a3⟩ := a
  obtain ⟨b1, b2, b3⟩ := b
  simp at h
  obtain ⟨h1, h2, h3⟩ := h
  rw [h1, h3, Sg.s_inj h2]
theorem intVs_inj {a b : List Int} (h : intVs a = intVs b) : a = b := List.map_inj_right (fun a b h => by injection h) |>.mp h
theorem ptv_inj {a b : List Int} (h : ptv a = ptv b) : a = b := intVs_inj (by injection h)
theorem all_same {F : V → V → St → Prop} {σ' : St} {xs vs : List V} (hF : ∀ x v, F x v σ' → v = x) (hl : vs.length = xs.length) (h : ∀ (i : Nat) (x : V), xs[i]? = some x → ∃ v, vs[i]? = some v ∧ F x v σ') : vs = xs := by
  have := vals_eq (f := fun x => x) (σ := σ') hl fun i x e => by obtain ⟨v, a, b⟩ := h i x e; exact ⟨v, a, hF _ _ b⟩
  simpa using this
theorem law_keep_ok (H : Says y.B) {ps : List (List Int)} {ls : List Lit} {src : V} (hb : σ b = some (.list (ptVs ps))) (hio : ∀ σ', σ.Le σ' → IterOf y σ' src (ls.map lv)) (hr : ∀ l ∈ ls, inR m l) (hp : ∀ p ∈ ps, p.length = m + 2) (hm : m ≤ 50) (hz : ps.length ≤ 100000) (hzl : ls.length ≤ 1000)
    (h : ∀ q σ', σ q = none → σ.Le σ' → σ' q = some (.list (ptVs (keepL ps ls))) → Q (.val (.ref q)) σ') : CallK y (n + 2) σ (.ref 438) [.val (.ref b), src] Q := by
  refine K_fn (F_law_keep H) (by kernel_rfl) rfl fun env he => ?_
  refine XS_cons (X_ret (E_comp1 (sck he) (E_var he rfl ⟨ptVs ps, fun cenv hc => ?_⟩)))
  have hc := relabel_S he hc
  refine CL_pure (src := .val (.ref b)) (all := ptVs ps) (σ₀ := σ) (p := onV ptv fun p => ls.all fun l => litSat l p) (F := fun x v _ => v = x) (fun ρ => ρ "literals" = some src) (fun x ρ => ρ "point" = some x) (fun σ' l => .of (l _ _ hb)) (fun x v σ' σ'' h _ => h) _ ?_ ?_ ?_ [] _ σ (by rfl) (.refl _) (by simp [ptVs]; exact ar139 hz) ?_
  · intro x hx ρ σ' R hJ hl hR
    exact T_var hc (hR _ (by rw [upd_ne (by decide)]; exact hJ) (upd_self ..)) (fun h => h)
  · intro x hxm ρ σ' B hJ hG hl hB
    obtain ⟨p, hpm, rfl⟩ := List.mem_map.mp hxm
    have hpl := hp p hpm
    rw [onV_eq (fun a b => ptv_inj)] at hB
    refine B_compare (E_comp1 (sck hc) (E_var hc (u := src) hJ ⟨ls.map lv, fun cenv₂ hc₂ => ?_⟩))
    have hc₂ := relabel_S hc hc₂
    refine CL_pure (src := src) (all := ls.map lv) (σ₀ := σ') (p := onV lv fun l => !litSat l p) (F := fun x v _ => v = x) (fun ρ => ρ "point" = some (ptv p)) (fun x ρ => ρ "one" = some x) (fun σ'' l => hio _ (hl.trans l)) (fun x v σ' σ'' h _ => h) _ ?_ ?_ ?_ [] _ σ' (by show cRho _ _ _ = _; exact hG) (.refl _) (by simp; exact ar8 hzl) ?_
    · intro x hx ρ σ' R hJ hl hR
      exact T_var hc₂ (hR _ (by rw [upd_ne (by decide)]; exact hJ) (upd_self ..)) (fun h => by cases h)
    · intro x hxm ρ₂ σ₂ B₂ hJ₂ hG₂ hl₂ hB₂
      obtain ⟨l, hlm, rfl⟩ := List.mem_map.mp hxm
      rw [onV_eq (fun a b => lv_inj)] at hB₂
      obtain ⟨i, hi, hi'⟩ := lit_idx (hr l hlm)
      refine B_not (B_val (E_fcall hc₂ (globFact H (k := 19) (by rfl) (by rfl)) (F_law_meets H).keeps (E_sub ?_)))
      refine E_var hc₂ (u := ptv p) hJ₂ (E_sub (E_var hc₂ (u := lv l) hG₂ (E_int ⟨_, item_lit0, ?_⟩)))
      rw [hi]
      refine ⟨_, item_pt (by exact ar140 hm hpl) (by exact ar141 hpl hi'), E_var hc₂ (u := lv l) hG₂ (CallK.v (law_meets_ok H ⟨_, rfl, ?_⟩))⟩
      have := hB₂ σ₂ (.refl _)
      unfold litSat at this
      rw [hi, Int.toNat_natCast] at this
      cases hs : satB l (p.getD i 0) <;> rw [hs] at this <;> exact this
    · intro x hxm ρ₂ σ₂ Q₂ hJ₂ hG₂ _ hl₂ hQ₂
      exact E_var hc₂ hG₂ (hQ₂ x σ₂ (.refl _) rfl)
    · intro vs ρ₂ σ₂ _ l₂ hlen hvs q hq
      have ev := all_same (F := fun x v _ => v = x) (σ' := σ₂) (fun _ _ h => h) hlen hvs
      rw [filter_vals (p := fun l => !litSat l p) fun a => onV_eq (fun a b => lv_inj) a] at ev
      rw [List.nil_append, ev]
      have l₃ := l₂.trans (St.Le.put (x := .list ((ls.filter fun l => !litSat l p).map lv)) hq)
      have e₃ : (σ₂.put q (.list ((ls.filter fun l => !litSat l p).map lv))) q = some (.list ((ls.filter fun l => !litSat l p).map lv)) := St.put_self ..
      generalize σ₂.put q (.list ((ls.filter fun l => !litSat l p).map lv)) = σ₃ at l₃ e₃ ⊢
      refine E_list ⟨by simp, fun q2 hq2 => ?_⟩
      have l₄ := St.Le.put (x := .list []) hq2
      refine O2_eqNil (l₄ _ _ e₃) (St.put_self ..) ⟨_, rfl, ?_⟩
      have eb : decide ((ls.filter fun l => !litSat l p) = []) = ls.all fun l => litSat l p := by
        rw [Bool.eq_iff_iff, decide_eq_true_eq, List.filter_eq_nil_iff, List.all_eq_true]
        simp
      rw [eb]
      have := hB _ (l₃.trans l₄)
      cases hs : (ls.all fun l => litSat l p) <;> rw [hs] at this <;> exact this
  · intro x hxm ρ σ' Q hJ hG _ hl hQ
    exact E_var hc hG (hQ x σ' (.refl _) rfl)
  · intro vs ρ' σ'' _ l' hlen hvs q hq
    have ev := all_same (F := fun x v _ => v = x) (σ' := σ'') (fun _ _ h => h) hlen hvs
    have ef : (ptVs ps).filter (onV ptv fun p => ls.all fun l => litSat l p) = ptVs (keepL ps ls) := filter_vals fun a => onV_eq (fun a b => ptv_inj) a
    rw [ef] at ev
    rw [List.nil_append, ev]
    exact h q _ (l'.none hq) (l'.trans (St.Le.put hq)) (St.put_self ..)
end
end Mine
end
section
open PySem PySem.W PySem.Calls PyProof.Rows
set_option maxRecDepth 100000
set_option linter.unusedVariables false
namespace Mine
noncomputable def addrOf : V → Addr
  | .val (.ref a) => a
  | _ => 0
structure LLO (σ : St) (a : Addr) (c : SC) (b : Addr) (ls : List (List Int)) : Prop where
  at' : ∃ as : List Addr, σ b = some (.list (as.map fun a => .val (.ref a))) ∧ as.length = ls.length ∧ (∀ (i : Nat) (z : Addr) (l : List Int), as[i]? = some z → ls[i]? = some l → σ z = some (.list (intVs l))) ∧ ∀ z ∈ as, z ∉ own a c
  nb : b ∉ own a c
theorem LLO.ll {σ : St} {a b : Addr} {c : SC} {ls : List (List Int)} (x : LLO σ a c b ls) : LL σ b ls := by
  obtain ⟨as, h1, h2, h3, _⟩ := x.at'
  exact ⟨as, h1, h2, h3⟩
theorem LLO.fr {σ σ' : St} {a b : Addr} {c c' : SC} {ls : List (List Int)} (x : LLO σ a c b ls) (l : Fr a c σ c' σ') : LLO σ' a c' b ls := by
  obtain ⟨as, h1, h2, h3, h4⟩ := x.at'
  refine ⟨⟨as, (l _ _ x.nb h1).1, h2, fun i z k e e' => (l _ _ (h4 z (List.mem_of_getElem? e)) (h3 i z k e e')).1, fun z hz => ?_⟩, (l _ _ x.nb h1).2⟩
  obtain ⟨i, hi⟩ := List.mem_iff_getElem?.mp hz
  have hi' : i < ls.length := by
    rcases Nat.lt_or_ge i as.length with q | q
    · exact ar155 h2 q
    · rw [List.getElem?_eq_none q] at hi; cases hi
  exact (l _ _ (h4 z hz) (h3 i z ls[i] hi (by simp [hi']))).2
section
variable {y : Sy} {n : Nat} {σ : St} {Q : V → St → Prop} {env : Env} {W : Str → Prop} {ρ : Env1} {a b : Addr} {c : SC} {S : SS} {m : Nat}
theorem LL.item {lots : List (List Int)} (h : LL σ b lots) {i : Nat} (hi : i < lots.length) (hz : lots.length ≤ 1000) : ∃ ai, Item y σ (.val (.ref b)) (.int (i : Int)) (.val (.ref ai)) ∧ σ ai = some (.list (intVs (lots.getD i []))) := by
  obtain ⟨as, h1, h2, h3⟩ := h.at'
  have hi' : i < as.length := by exact ar156 hi h2
  refine ⟨as[i], ⟨_, i, .of h1, by simp; exact ar157 hz h2, by rw [seqIndex_pos (by exact ar9) (by simp; assumption)]; simp, by simp [hi']⟩, ?_⟩
  exact h3 i as[i] _ (by simp [hi']) (by simp [hi])
theorem dS_vals_le (O : OKS m S) {x : Nat} (hx : x < m + 2) : (valsD (dS S x)).length ≤ 6 := by
  obtain ⟨k, _, ek⟩ := (O.cd hx).1.vals
  rw [ek]
  unfold bitsV
  rw [List.length_map]
  exact Nat.le_trans (List.length_filter_le ..) (by simp)
theorem law_now_ok (H : Says y.B) (A : SA σ a c S) (O : OKS m S) (h : ∀ q σ', σ q = none → σ.Le σ' → LLO σ' a c q (nowL S) → (∀ vs z, σ' q = some (.list vs) → V.val (.ref z) ∈ vs → σ z = none) → Q (.val (.ref q)) σ') : CallK y (n + 2) σ (.ref 443) [.val (.ref a)] Q := by
  refine K_fn (F_law_now H) (by kernel_rfl) rfl fun env he => ?_
  have hm := O.hm
  refine XS_cons (X_ret (E_comp1 (sck he) (E_fcall he (bltFact H (k := 3) (by rfl) (by rfl)) (keeps_type _ _) (E_smeth H (E_var he (u := .val (.ref a)) rfl ⟨rfl, A, ?_⟩) (F_s_size H).keeps))))
  refine CallK.v (s_size_ok H A (by have := O.dl; exact ar42 this) (C_range1 ⟨natVs (List.range (m + 2)), fun cenv hc => ?_⟩))
  have hc := relabel_S he hc
  have eio : ∀ σ' : St, IterOf y σ' (.rng 0 ((S.doms.length : Nat) : Int) 1) (natVs (List.range (m + 2))) := fun σ' => by
    rw [← steps01, O.ld]
    exact rng_iter (k := m + 2) (by exact ar158 hm)
  refine CL_pure (src := .rng 0 ((S.doms.length : Nat) : Int) 1) (all := natVs (List.range (m + 2))) (σ₀ := σ) (p := fun _ => true) (F := fun x v σ' => ∃ (i : Nat) (q : Addr), x = .int (i : Int) ∧ v = .val (.ref q) ∧ σ' q = some (.list (intVs (valsD (dS S i)))) ∧ σ q = none) (fun ρ => ρ "store" = some (.val (.ref a))) (fun x ρ => ρ "x" = some x) (fun σ' l => eio σ')
    (fun x v σ' σ'' ⟨i, q, e1, e2, e3, e4⟩ l => ⟨i, q, e1, e2, l _ _ e3, e4⟩) _ ?_ ?_ ?_ [] _ σ (by rfl) (.refl _) (by simp [natVs]; exact ar159 hm) ?_
  · intro x hx ρ σ' R hJ hl hR
    exact T_var hc (hR _ (by rw [upd_ne (by decide)]; exact hJ) (upd_self ..)) (fun h => by cases h)
  · intro x hx ρ σ' B hJ hG hl hB
    exact hB σ' (.refl _)
  · intro x hxm ρ σ' Q hJ hG _ hl hQ
    obtain ⟨i, hi, rfl⟩ := List.mem_map.mp hxm
    have hi := List.mem_range.mp hi
    refine E_fcall hc (globFact H (k := 18) (by rfl) (by rfl)) (F_law_spread H).keeps ?_
    refine E_smeth H (E_var hc (u := .val (.ref a)) hJ ⟨rfl, A.le hl, E_var hc (u := .int (i : Int)) hG ?_⟩) (F_s_dom H).keeps
    refine q_dom H (A.le hl) O hi (CallK.v (law_spread_ok H (O.cd hi).1.small fun q hq => ?_))
    exact hQ _ _ (St.Le.put hq) ⟨i, q, rfl, rfl, St.put_self .., hl.none hq⟩
  · intro vs ρ' σ₁ _ l₁ hlen hvs b hb
    have e0 : (natVs (List.range (m + 2))).filter (fun _ => true) = natVs (List.range (m + 2)) := List.filter_eq_self.mpr fun _ _ => rfl
    rw [e0] at hlen hvs
    have hl : vs.length = m + 2 := by rw [hlen]; simp [natVs]
    have hv : ∀ i, i < m + 2 → ∃ q, vs[i]? = some (.val (.ref q)) ∧ σ₁ q = some (.list (intVs (valsD (dS S i)))) ∧ σ q = none := fun i hi => by
      obtain ⟨v, e1, j, q, e2, e3, e4, e5⟩ := hvs i (.int (i : Int)) (by simp [natVs, hi])
      have : j = i := by injection e2 with e2; exact ar82 e2
      subst this
      exact ⟨q, by rw [e1, e3], e4, e5⟩
    have ev : vs = (vs.map addrOf).map fun q => V.val (.ref q) := by
      apply List.ext_getElem?
      intro i
      by_cases hi : i < m + 2
      · obtain ⟨q, e, _⟩ := hv i hi
        rw [List.map_map, List.getElem?_map, e]; rfl
      · rw [List.getElem?_eq_none (by exact ar160 hl hi), List.getElem?_eq_none (by simp; exact ar160 hl hi)]
    have l₂ : σ₁.Le (σ₁.put b (.list ([] ++ vs))) := St.Le.put hb
    have hzn : ∀ z ∈ vs.map addrOf, σ z = none := fun z hz => by
      obtain ⟨v, hv', rfl⟩ := List.mem_map.mp hz
      obtain ⟨i, hi⟩ := List.mem_iff_getElem?.mp hv'
      have hi' : i < m + 2 := by
        rcases Nat.lt_or_ge i (m + 2) with z | z
        · exact z
        · rw [List.getElem?_eq_none (by exact ar161 hl z)] at hi; cases hi
      obtain ⟨q', e1, _, e3⟩ := hv i hi'
      rw [e1] at hi
      cases hi
      exact e3
    refine h b _ (l₁.none hb) (l₁.trans l₂) ⟨⟨vs.map addrOf, ?_, by simp [nowL, hl, O.ld], fun i q l e e' => ?_, fun z hz => own_fresh A (hzn z hz)⟩, own_fresh A (l₁.none hb)⟩ fun ws z e hz => hzn z ?_
    · rw [St.put_self, List.nil_append, ← ev]
    · have hi : i < m + 2 := by
        rcases Nat.lt_or_ge i (m + 2) with z | z
        · exact z
        · rw [List.getElem?_eq_none (by simp; exact ar161 hl z)] at e; cases e
      obtain ⟨q', e1, e2, _⟩ := hv i hi
      rw [List.getElem?_map, e1] at e
      have : q' = q := by simpa [addrOf] using e
      subst this
      obtain ⟨h1, h2⟩ := O.dget hi
      have : l = valsD (dS S i) := by
        unfold nowL at e'
        rw [List.getElem?_map, List.getElem?_eq_getElem h1, h2] at e'
        simpa using e'.symm
      rw [this]
      exact l₂ _ _ e2
    · rw [St.put_self, List.nil_append] at e
      injection e with e
      injection e with e
      rw [← e, ev] at hz
      obtain ⟨w, hw, e⟩ := List.mem_map.mp hz
      injection e with e
      injection e with e
      rw [← e]; exact hw
theorem law_hold_ok (H : Says y.B) {lots : List (List Int)} {ls : List Lit} {src : V} (hb : LL σ b lots) (hio : ∀ σ', σ.Le σ' → IterOf y σ' src (ls.map lv)) (hr : ∀ l ∈ ls, inR m l) (hl : lots.length = m + 2) (hm : m ≤ 50) (h6 : ∀ l ∈ lots, l.length ≤ 1000)
    (h : ∀ σ', σ.Le σ' → Q (.val (.bool (holdB lots ls))) σ') : CallK y (n + 2) σ (.ref 448) [.val (.ref b), src] Q := by
  refine K_fn (F_law_hold H) (by kernel_rfl) rfl fun env he => ?_
  refine XS_cons (X_for (E_var he rfl ⟨ls.map lv, ?_⟩))
  refine FL_ind (fun xs ρ σ' => ∃ done rest : List Lit, ls = done ++ rest ∧ xs = rest.map lv ∧ (done.all fun l => (lots.getD l.1.toNat []).all (satB l)) = true ∧ σ.Le σ' ∧ ρ "lots" = some (.val (.ref b))) ?_ ?_ _ _ _ ⟨[], ls, rfl, rfl, rfl, .refl _, rfl⟩
  · rintro ρ σ' ⟨done, rest, e1, e2, e3, l, el⟩
    have : rest = [] := by cases rest with | nil => rfl | cons _ _ => cases e2
    subst this
    rw [List.append_nil] at e1
    subst e1
    refine ⟨hio σ' l, XS_cons (X_ret (E_bool ?_))⟩
    have := h σ' l
    unfold holdB at this
    rw [e3] at this; exact this
  · rintro x xs ρ σ' ⟨done, rest, e1, e2, e3, l, el⟩
    cases rest with
    | nil => cases e2
    | cons one rest =>
      cases e2
      obtain ⟨i, hi, hi'⟩ := lit_idx (hr one (by rw [e1]; simp))
      obtain ⟨ai, hitem, hai⟩ := (hb.le l).item (y := y) (i := i) (by exact ar141 hl hi') (by exact ar162 hl hm)
      have hlen : (lots.getD i []).length ≤ 1000 := h6 _ (getD_mem (by exact ar141 hl hi'))
      refine ⟨hio σ' l, T_var he ?_⟩
      intro ρ
      refine XS_cons (X_if (B_compare (E_comp1 (sck he) (E_sub (E_var he (u := .val (.ref b)) (by exact el) (E_sub (E_var he (u := lv one) rfl (E_int ⟨_, item_lit0, ?_⟩))))))))
      rw [hi]
      refine ⟨_, hitem, intVs (lots.getD i []), fun cenv hc => ?_⟩
      have hc := relabel_S he hc
      refine CL_pure (src := .val (.ref ai)) (all := intVs (lots.getD i [])) (σ₀ := σ') (p := onV .int fun v => !satB one v) (F := fun x v _ => v = x) (fun ρ => ρ "one" = some (lv one)) (fun x ρ => ρ "v" = some x) (fun σ'' l => .of (l _ _ hai)) (fun x v σ' σ'' h _ => h) _ ?_ ?_ ?_ [] _ σ' (by rfl) (.refl _) (by rw [List.length_nil, Nat.zero_add]; unfold intVs; rw [List.length_map]; exact ar8 hlen) ?_
      · intro x hx ρ σ' R hJ hl hR
        exact T_var hc (hR _ (by rw [upd_ne (by decide)]; exact hJ) (upd_self ..)) (fun h => by cases h)
      · intro x hxm ρ₂ σ₂ B₂ hJ₂ hG₂ hl₂ hB₂
        obtain ⟨v, hv, rfl⟩ := List.mem_map.mp hxm
        rw [onV_eq (fun a b h => by injection h)] at hB₂
        refine B_not (B_val (E_fcall hc (globFact H (k := 19) (by rfl) (by rfl)) (F_law_meets H).keeps (E_var hc (u := .int v) hG₂ (E_var hc (u := lv one) hJ₂ (CallK.v (law_meets_ok H ⟨_, rfl, ?_⟩))))))
        have := hB₂ σ₂ (.refl _)
        cases hs : satB one v <;> rw [hs] at this <;> exact this
      · intro x hxm ρ₂ σ₂ Q₂ hJ₂ hG₂ _ hl₂ hQ₂
        exact E_var hc hG₂ (hQ₂ x σ₂ (.refl _) rfl)
      · intro vs ρ₂ σ₂ _ l₂ hln hvs q hq
        have ev := all_same (F := fun x v _ => v = x) (σ' := σ₂) (fun _ _ h => h) hln hvs
        have ef : (intVs (lots.getD i [])).filter (onV .int fun v => !satB one v) = intVs ((lots.getD i []).filter fun v => !satB one v) := filter_vals fun a => onV_eq (fun a b h => by injection h) a
        rw [ef] at ev
        rw [List.nil_append, ev]
        have l₃ := l₂.trans (St.Le.put (x := .list (intVs ((lots.getD i []).filter fun v => !satB one v))) hq)
        have e₃ : (σ₂.put q (.list (intVs ((lots.getD i []).filter fun v => !satB one v)))) q = some (.list (intVs ((lots.getD i []).filter fun v => !satB one v))) := St.put_self ..
        generalize σ₂.put q (.list (intVs ((lots.getD i []).filter fun v => !satB one v))) = σ₃ at l₃ e₃ ⊢
        refine E_list ⟨by simp, fun q2 hq2 => ?_⟩
        have l₄ := St.Le.put (x := .list []) hq2
        refine O2_neI (k := []) (l₄ _ _ e₃) (St.put_self ..) ⟨_, rfl, fun hc => ?_, fun hc => ?_⟩
        · have hc := of_decide_eq_true hc
          refine XS_cons (X_ret (E_bool ?_))
          have := h _ (l.trans (l₃.trans l₄))
          have eh : holdB lots ls = false := by
            unfold holdB
            rw [Bool.eq_false_iff]
            intro q
            have := List.all_eq_true.mp q one (by rw [e1]; simp)
            rw [hi, Int.toNat_natCast] at this
            apply hc
            rw [List.filter_eq_nil_iff]
            intro v hv
            have := List.all_eq_true.mp this v hv
            simp [this]
          rw [eh] at this; exact this
        · have hc : ¬ ((lots.getD i []).filter fun v => !satB one v) ≠ [] := of_decide_eq_false hc
          have hc : ((lots.getD i []).filter fun v => !satB one v) = [] := Classical.not_not.mp hc
          refine XS_nil (XS_nil ⟨done ++ [one], rest, by rw [e1]; simp, rfl, ?_, l.trans (l₃.trans l₄), by exact el⟩)
          rw [List.all_append, e3, List.all_cons, List.all_nil, hi, Int.toNat_natCast]
          simp only [Bool.true_and, Bool.and_true]
          rw [List.all_eq_true]
          intro v hv
          have := List.filter_eq_nil_iff.mp hc v hv
          simpa using this
end
end Mine
end
section
open PySem PySem.W PySem.Calls PyProof.Rows
set_option maxRecDepth 100000
set_option linter.unusedVariables false
namespace Mine
section
variable {y : Sy} {n : Nat} {σ : St} {Q : V → St → Prop} {env : Env} {W : Str → Prop} {ρ : Env1} {a b e d : Addr} {c : SC} {S : SS} {m : Nat}
theorem rng_size {k st : Nat} (h1 : 1 ≤ st) : ∃ r : Nat, Builtin.Range.rangeSize 0 (k : Int) (st : Int) = r ∧ r ≤ k ∧ ∀ i, i < r → i * st < k := by
  unfold Builtin.Range.rangeSize
  rw [if_pos (by exact ar163 h1)]
  by_cases h : (0 : Int) < k
  · rw [if_pos h]
    have e : ((k : Int) - 0 - 1) / (st : Int) = (((k - 1) / st : Nat) : Int) := by
      rw [Int.natCast_ediv]; congr 1; exact ar164 h
    refine ⟨(k - 1) / st + 1, by rw [e]; rfl, ?_, fun i hi => ?_⟩
    · have := Nat.div_le_self (k - 1) st; exact ar165 h this
    · have : i ≤ (k - 1) / st := by exact ar166 hi
      have := (Nat.le_div_iff_mul_le (by assumption)).mp this
      exact ar168 h this
  · rw [if_neg h]
    exact ⟨0, rfl, by exact Nat.zero_le _, fun i hi => by exact ar170 hi⟩
theorem rng_iter3 {σ' : St} {k st r : Nat} (hk : k ≤ 100000) (h1 : 1 ≤ st) (h2 : st ≤ 100000) (hr : Builtin.Range.rangeSize 0 (k : Int) (st : Int) = r) (hrk : r ≤ k) : IterOf y σ' (.rng 0 (k : Int) (st : Int)) (steps 0 (st : Int) r) := by
  refine ⟨?_, r, hr, rfl⟩
  unfold Builtin.Range.small
  rw [hr]
  simp only [Builtin.Range.rangeFitsLong, Bool.and_eq_true, Bool.or_eq_true, decide_eq_true_eq, beq_iff_eq]
  refine ⟨⟨⟨⟨by exact ar171, by exact ar172 hk⟩, by exact ar172 h2⟩, by exact ar173 hk hrk⟩, .inr ?_⟩
  rw [if_pos (by exact ar163 h1)]
  simp only [Bool.and_eq_true, decide_eq_true_eq]
  exact ar174 hk h2
theorem pylN {a : Int} {k : Nat} (h : k ≤ 1000) : Builtin.divisionGoesByPylong a (k : Int) = false := by
  unfold Builtin.divisionGoesByPylong
  have : ¬ ((if (k : Int) == 0 then 0 else (k : Int).natAbs.log2 / 30 + 1) > 300) := by
    split
    · exact ar175
    · rename_i h0
      have hk : k ≠ 0 := by simpa using h0
      have : (k : Int).natAbs.log2 < 10 := by
        rw [Int.natAbs_natCast]
        exact (Nat.log2_lt hk).mpr (by exact ar176 h)
      exact ar177 this
  dsimp only
  rw [decide_eq_false this]; rfl
theorem item_pts {ps : List (List Int)} (hb : σ b = some (.list (ptVs ps))) {i : Nat} (hi : i < ps.length) (hz : ps.length ≤ 100000) : Item y σ (.val (.ref b)) (.int (i : Int)) (ptv (ps.getD i [])) :=
  ⟨_, i, .of hb, by simp [ptVs]; exact ar139 hz, by rw [seqIndex_pos (by exact ar9) (by simp [ptVs]; assumption)]; simp, by simp [ptVs, hi]⟩
theorem law_checked_right_ok (H : Says y.B) (Ee : EA σ e d m) {lots : List (List Int)} (hb : LL σ b lots) (hz : lots.length = m + 2) (hm : m ≤ 3) (h6 : ∀ l ∈ lots, l.length ≤ 6)
    (h : ∀ σ', σ.Le σ' → Q (.val (.bool true)) σ') : CallK y (n + 2) σ (.ref 465) [.val (.ref e), .val (.ref b)] Q := by
  refine K_fn (F_law_checked_right H) (by kernel_rfl) rfl fun env he => ?_
  have hlen : (pointsL lots).length ≤ 7776 := by
    have := points_len lots [[]] h6
    have h5 : 6 ^ lots.length ≤ 6 ^ 5 := Nat.pow_le_pow_right (by exact ar132) (by exact ar178 hz hm)
    simp only [List.length_singleton, Nat.one_mul] at this
    exact Nat.le_trans this h5
  have hpl : ∀ p ∈ pointsL lots, p.length = m + 2 := fun p hp => by
    have := points_mem_len lots [[]] 0 (by simp) p hp
    exact ar179 hz this
  refine XS_cons (X_assign (E_fcall he (globFact H (k := 21) (by rfl) (by rfl)) (F_law_points H).keeps (E_var he (u := .val (.ref b)) rfl (CallK.v (law_points_ok H hb (by exact ar178 hz hm) h6 fun q σ₁ hq l₁ e₁ => T_var he ?_)))))
  intro ρ
  generalize pointsL lots = P at *
  have ec : (1 : Int) + (((ptVs P).length : Nat) : Int).fdiv 40 = ((1 + P.length / 40 : Nat) : Int) := by
    rw [Int.fdiv_eq_ediv_of_nonneg _ (by exact ar180)]
    simp [ptVs]
  have eP : ((ptVs P).length : Int) = ((P.length : Nat) : Int) := by simp [ptVs]
  obtain ⟨r, hr, hrk, hri⟩ := rng_size (k := P.length) (st := 1 + P.length / 40) (by exact ar181)
  refine XS_cons (X_for (E_fcall he (bltFact H (k := 3) (by rfl) (by rfl)) (keeps_type _ _) (E_int (E_fcall he (bltFact H (k := 5) (by rfl) (by rfl)) (keeps_builtin _ _) (E_var he (u := .val (.ref q)) rfl (C_len_list (.of e₁) (by simp [ptVs]; exact ar182 hlen) ?_))))))
  refine E_binop (E_int (E_binop (E_fcall he (bltFact H (k := 5) (by rfl) (by rfl)) (keeps_builtin _ _) (E_var he (u := .val (.ref q)) rfl (C_len_list (.of e₁) (by simp [ptVs]; exact ar182 hlen) (E_int (O2_fdiv (by exact ar183) (pyl (by exact ar184)) (O2_add ?_))))))))
  rw [ec, eP]
  refine C_range3 (by exact ar185) (pylN (by exact ar186 hlen)) ⟨steps 0 ((1 + P.length / 40 : Nat) : Int) r, ?_⟩
  have hst : 1 ≤ 1 + P.length / 40 ∧ 1 + P.length / 40 ≤ 1000 := by exact ar187 hlen
  have hio : ∀ σ' : St, IterOf y σ' (.rng 0 ((P.length : Nat) : Int) ((1 + P.length / 40 : Nat) : Int)) (steps 0 ((1 + P.length / 40 : Nat) : Int) r) := fun σ' => rng_iter3 (by exact ar188 hlen) (by exact ar181) (by exact ar189 hst) hr hrk
  generalize 1 + P.length / 40 = st at *
  refine FL_ind (fun xs ρ σ' => ∃ i k : Nat, i + k = r ∧ xs = steps ((i * st : Nat) : Int) (st : Int) k ∧ ρ "points" = some (.val (.ref q)) ∧ ρ "rule" = some (.val (.ref e)) ∧ σ₁.Le σ') ?_ ?_ _ _ _ ⟨0, r, by exact ar101, by rw [Nat.zero_mul]; rfl, rfl, rfl, .refl _⟩
  · rintro ρ σ' ⟨i, k, hk, ex, ep, er, l⟩
    exact ⟨hio σ', XS_cons (X_ret (E_bool (h σ' (l₁.trans l))))⟩
  · rintro x xs ρ σ' ⟨i, k, hk, ex, ep, er, l⟩
    cases k with
    | zero => cases ex
    | succ k =>
      rw [steps] at ex
      cases ex
      have hi := hri i (by exact ar190 hk)
      refine ⟨hio σ', T_var he ?_⟩
      intro ρ
      have hp : (P.getD (i * st) []).length = m + 2 := hpl _ (getD_mem hi)
      refine XS_cons (X_if (B_compare (E_emeth H (E_var he (u := .val (.ref e)) (by exact er) ⟨rfl, Ee.le (l₁.trans l), E_sub (E_var he (u := .val (.ref q)) (by exact ep) (E_var he (u := .int ((i * st : Nat) : Int)) rfl ⟨_, item_pts (l _ _ e₁) hi (by exact ar188 hlen), ?_⟩))⟩) (F_e_check H).keeps)))
      refine CallK.v (e_check_ok H (by exact ar191 hm hp) (by exact ar192 hp) ?_)
      refine E_fcall he (globFact H (k := 20) (by rfl) (by rfl)) (F_law_is_answer H).keeps (E_sub (E_var he (u := .val (.ref q)) (by exact ep) (E_var he (u := .int ((i * st : Nat) : Int)) rfl ⟨_, item_pts (l _ _ e₁) hi (by exact ar188 hlen), ?_⟩)))
      refine CallK.v (law_is_answer_ok H (by exact ar191 hm hp) (by exact ar192 hp) (O2_neb ⟨_, rfl, ?_⟩))
      rw [show (isAns (P.getD (i * st) []) != isAns (P.getD (i * st) [])) = false from by simp]
      refine ⟨fun h => (by cases h), fun _ => XS_nil (XS_nil ⟨i + 1, k, by exact ar109 hk, ?_, by exact ep, by exact er, l⟩)⟩
      rw [Nat.succ_mul, Int.natCast_add]
end
end Mine
end
section
open PySem PySem.W PySem.Calls PyProof.Rows
set_option maxRecDepth 100000
set_option linter.unusedVariables false
namespace Mine
noncomputable def St.LeB (b : Addr) (σ σ' : St) : Prop := ∀ q z, q ≠ b → σ q = some z → σ' q = some z
theorem St.LeB.of {b : Addr} {σ σ' : St} (l : σ.Le σ') : St.LeB b σ σ' := fun q z _ e => l q z e
theorem St.LeB.trans {b : Addr} {σ σ₁ σ' : St} (x : St.LeB b σ σ₁) (z : St.LeB b σ₁ σ') : St.LeB b σ σ' := fun q o n e => z q o n (x q o n e)
theorem LL.ne {σ : St} {b p : Addr} {L : List (List Int)} (x : LL σ b L) (hL : 0 < L.length) {vs : List V} (hp : σ p = some (.list vs)) (hv : ∀ v ∈ vs, ∀ q : Addr, v ≠ .val (.ref q)) : p ≠ b := by
  rintro rfl
  obtain ⟨as, h1, h2, h3⟩ := x.at'
  rw [hp] at h1
  cases as with
  | nil => simp at h2; exact ar193 hL h2
  | cons q as =>
    injection h1 with h1
    injection h1 with h1
    rw [h1] at hv
    exact hv _ (.head _) q rfl
theorem LL.set {σ : St} {b q : Addr} {L : List (List Int)} (x : LL σ b L) {i : Nat} {l : List Int} (hL : i < L.length) (hq : σ q = some (.list (intVs l))) : ∃ as : List Addr, σ b = some (.list (as.map fun a => V.val (.ref a))) ∧ as.length = L.length ∧ LL (σ.put b (.list ((as.map fun a => V.val (.ref a)).set i (.val (.ref q))))) b (L.set i l) := by
  obtain ⟨as, h1, h2, h3⟩ := x.at'
  have nq : q ≠ b := x.ne (by exact ar194 hL) hq (by intro v hv q; obtain ⟨i, _, rfl⟩ := List.mem_map.mp hv; intro h; cases h)
  refine ⟨as, h1, h2, as.set i q, ?_, by simp [h2], fun j z k e e' => ?_⟩
  · rw [St.put_self, List.map_set]
  · by_cases hj : j = i
    · subst hj
      rw [List.getElem?_set_self (by (first | exact ar195 h2 hL | assumption))] at e e'
      cases e; cases e'
      rw [St.put_ne nq]; exact hq
    · rw [List.getElem?_set_ne (Ne.symm hj)] at e e'
      have hz := h3 j z k e e'
      have nz : z ≠ b := x.ne (by exact ar194 hL) hz (by intro v hv q; obtain ⟨i, _, rfl⟩ := List.mem_map.mp hv; intro h; cases h)
      rw [St.put_ne nz]; exact hz
inductive Chain (m : Nat) (P : List (List Int)) : List (List Int) → List TE → List (List Int) → Prop
  | nil {L : List (List Int)} : Chain m P L [] L
  | cons {L L' : List (List Int)} {old : Dom} {x : Nat} {s : Sg} {k : Int} {r : List Lit} {u : List TE} (hx : x < m + 2) (hr : ∀ l ∈ r, inR m l) (hrl : r.length ≤ 900) (ho : Small old) (hv : valsD old = L.getD x []) (hh : holdB L r = true)
      (hk : keepL P r = keepL P (r ++ [((x : Int), s, k)])) (h1 : (L.getD x []).filter (satB ((x : Int), s, k)) ≠ []) (h2 : (L.getD x []).filter (satB ((x : Int), s, k)) ≠ L.getD x [])
      (h : Chain m P (L.set x ((L.getD x []).filter (satB ((x : Int), s, k)))) u L') : Chain m P L (⟨old, ((x : Int), s, k), some r⟩ :: u) L'
section
variable {y : Sy} {n : Nat} {σ : St} {Q : V → St → Prop} {env : Env} {W : Str → Prop} {ρ : Env1} {a b e d p : Addr} {c : SC} {S : SS} {m : Nat}
theorem law_strikes_right_ok (H : Says y.B) (A : SA σ a c S) {t u : List TE} (htu : S.trail = t ++ u) (hz : S.trail.length ≤ 1000) {L L' P : List (List Int)} (hb : LL σ b L) (hL : L.length = m + 2) (h6 : ∀ l ∈ L, l.length ≤ 1000)
    (hp : σ p = some (.list (ptVs P))) (hpl : ∀ p ∈ P, p.length = m + 2) (hPz : P.length ≤ 100000) (hm : m ≤ 50) (ch : Chain m P L u L')
    (h : ∀ σ', LL σ' b L' → St.LeB b σ σ' → Q (.val (.bool true)) σ') : CallK y (n + 3) σ (.ref 453) [.val (.ref a), .val (.ref b), .int (t.length : Int), .val (.ref p)] Q := by
  refine K_fn (F_law_strikes_right H) (by kernel_rfl) rfl fun env he => ?_
  have npb : p ≠ b := hb.ne (by exact ar196 hL) hp (by intro v hv q; obtain ⟨i, _, rfl⟩ := List.mem_map.mp hv; intro h; cases h)
  refine XS_cons (X_for (E_slice (E_sattr H (u := .val (.ref c.tr)) (E_var he (u := .val (.ref a)) rfl ⟨rfl, A, E_var he (u := .int (t.length : Int)) rfl ⟨_, rfl, _, _, rfl, .of A.tr, by simp; exact ar8 hz, fun b3 hb3 => ⟨u.map TE.v, ?_⟩⟩⟩) rfl)))
  have ep : pick (S.trail.map TE.v) (some (t.length : Int)) none = u.map TE.v := by
    rw [pick_from, htu, List.map_append]
    have : (t.map TE.v).length = t.length := by simp
    rw [← this, List.drop_left]
  rw [ep]
  have l₁ : σ.Le (σ.put b3 (.list (u.map TE.v))) := St.Le.put hb3
  have e₁ : (σ.put b3 (.list (u.map TE.v))) b3 = some (.list (u.map TE.v)) := St.put_self ..
  generalize σ.put b3 (.list (u.map TE.v)) = σ₁ at l₁ e₁ ⊢
  have n3 : b3 ≠ b := by
    rintro rfl
    obtain ⟨as, h1, _⟩ := hb.at'
    rw [h1] at hb3; cases hb3
  refine FL_ind (fun xs ρ σ' => ∃ (Lq : List (List Int)) (r : List TE), xs = r.map TE.v ∧ Chain m P Lq r L' ∧ LL σ' b Lq ∧ Lq.length = m + 2 ∧ (∀ l ∈ Lq, l.length ≤ 1000) ∧ St.LeB b σ₁ σ' ∧ ρ "lots" = some (.val (.ref b)) ∧ ρ "answers" = some (.val (.ref p))) ?_ ?_ _ _ _ ⟨L, u, rfl, ch, hb.le l₁, hL, h6, fun _ _ _ h => h, rfl, rfl⟩
  · rintro ρ σ' ⟨Lq, r, er, hch, hLL, hl, h6', lb, el, ea⟩
    have : r = [] := by cases r with | nil => rfl | cons _ _ => cases er
    subst this
    cases hch
    exact ⟨.of (lb _ _ n3 e₁), XS_cons (X_ret (E_bool (h σ' hLL ((St.LeB.of l₁).trans lb))))⟩
  · rintro x' xs ρ σ' ⟨Lq, r, er, hch, hLL, hl, h6', lb, el, ea⟩
    cases hch with
    | nil => cases er
    | @cons _ _ old x s k rs u' hx hr hrl ho hv hh hk h1 h2 hrest =>
      cases er
      have hp' : σ' p = some (.list (ptVs P)) := lb _ _ npb (l₁ _ _ hp)
      obtain ⟨ai, hitem, hai⟩ := hLL.item (y := y) (i := x) (by exact ar141 hl hx) (by exact ar140 hm hl)
      have h6x : (Lq.getD x []).length ≤ 1000 := h6' _ (getD_mem (by exact ar141 hl hx))
      refine ⟨.of (lb _ _ n3 e₁), T_tup (xs := [.int (x : Int), dv old, lv ((x : Int), s, k), .tup (rs.map lv), .int (-1)]) (T_var he (T_var he (T_var he (T_var he (T_var he ?_)))))⟩
      intro ρ
      refine XS_cons (X_if (B_boolop ?_))
      refine B_compare (E_var he (u := .tup (rs.map lv)) rfl (E_none (O2_isNone ⟨_, rfl, ?_⟩)))
      show BAll _ _ _ _ _ _ _ _
      refine B_compare (E_sub (E_var he (u := lv ((x : Int), s, k)) rfl (E_int ⟨_, item_lit0, E_var he (u := .int (x : Int)) rfl (O2_nei ⟨_, rfl, ?_⟩)⟩)))
      rw [show ((((x : Int), s, k) : Lit).1 != (x : Int)) = false from by simp]
      show BAll _ _ _ _ _ _ _ _
      refine B_compare (E_fcall he (globFact H (k := 18) (by rfl) (by rfl)) (F_law_spread H).keeps (E_var he (u := dv old) rfl (CallK.v (law_spread_ok H ho fun q hq => ?_))))
      have l₂ : σ'.Le (σ'.put q (.list (intVs (valsD old)))) := St.Le.put hq
      have e₂ : (σ'.put q (.list (intVs (valsD old)))) q = some (.list (intVs (valsD old))) := St.put_self ..
      generalize σ'.put q (.list (intVs (valsD old))) = σ₂ at l₂ e₂ ⊢
      refine E_sub (E_var he (u := .val (.ref b)) (by exact el) (E_var he (u := .int (x : Int)) rfl ⟨_, (hLL.le l₂).item (y := y) (i := x) (by exact ar141 hl hx) (by exact ar140 hm hl) |>.choose_spec.1, O2_neI e₂ ((hLL.le l₂).item (y := y) (i := x) (by exact ar141 hl hx) (by exact ar140 hm hl) |>.choose_spec.2) ⟨_, rfl, ?_⟩⟩))
      rw [hv, decide_eq_false (fun q => q rfl)]
      show BAll _ _ _ _ _ _ _ _
      refine B_not (B_val (E_fcall he (globFact H (k := 24) (by rfl) (by rfl)) (F_law_hold H).keeps (E_var he (u := .val (.ref b)) (by exact el) (E_var he (u := .tup (rs.map lv)) rfl ?_))))
      refine CallK.v (law_hold_ok H (hLL.le l₂) (ls := rs) (fun _ _ => rfl) hr hl hm h6' fun σ₃ l₃ => ⟨_, rfl, ?_⟩)
      rw [hh]
      show KIf _ _ _ _ _ _ _ _ _ _
      refine ⟨fun q => (by cases q), fun _ => XS_nil ?_⟩
      have l₃' := l₂.trans l₃
      refine XS_cons (X_if (B_compare (E_fcall he (globFact H (k := 22) (by rfl) (by rfl)) (F_law_keep H).keeps (E_var he (u := .val (.ref p)) (by exact ea) (E_var he (u := .tup (rs.map lv)) rfl ?_)))))
      refine CallK.v (law_keep_ok H (l₃' _ _ hp') (ls := rs) (fun _ _ => rfl) hr hpl hm hPz (by exact ar42 hrl) fun q₄ σ₄ hq₄ l₄ e₄ => ?_)
      refine E_fcall he (globFact H (k := 22) (by rfl) (by rfl)) (F_law_keep H).keeps (E_var he (u := .val (.ref p)) (by exact ea) (E_binop (E_fcall he (bltFact H (k := 7) (by rfl) (by rfl)) (keeps_type _ _) (E_var he (u := .tup (rs.map lv)) rfl (C_list_tup (by simp; exact ar197 hrl) fun b5 hb5 => ?_)))))
      have l₅ := St.Le.put (x := .list (rs.map lv)) hb5
      have e₅ : (σ₄.put b5 (.list (rs.map lv))) b5 = some (.list (rs.map lv)) := St.put_self ..
      generalize σ₄.put b5 (.list (rs.map lv)) = σ₅ at l₅ e₅ ⊢
      refine E_list (E_var he (u := lv ((x : Int), s, k)) rfl ⟨by simp, fun b6 hb6 => ?_⟩)
      have l₆ := St.Le.put (x := .list [lv ((x : Int), s, k)]) hb6
      refine O2_addL (l₆ _ _ e₅) (St.put_self ..) (by simp; exact ar198 hrl) fun b7 hb7 => ?_
      have l₇ := l₆.trans (St.Le.put (x := .list (rs.map lv ++ [lv ((x : Int), s, k)])) hb7)
      have e₇ : ((σ₅.put b6 (.list [lv ((x : Int), s, k)])).put b7 (.list (rs.map lv ++ [lv ((x : Int), s, k)]))) b7 = some (.list ((rs ++ [((x : Int), s, k)]).map lv)) := by rw [St.put_self]; simp
      generalize (σ₅.put b6 (.list [lv ((x : Int), s, k)])).put b7 (.list (rs.map lv ++ [lv ((x : Int), s, k)])) = σ₇ at l₇ e₇ ⊢
      have hr' : ∀ l ∈ rs ++ [((x : Int), s, k)], inR m l := fun l hl => by
        rcases List.mem_append.mp hl with hl | hl
        · exact hr l hl
        · rw [List.mem_singleton] at hl
          subst hl
          exact ⟨by show (0 : Int) ≤ x; exact ar9, by show (x : Int) < _; exact ar199 hx⟩
      have l₇' := ((l₃'.trans l₄).trans l₅).trans l₇
      refine CallK.v (law_keep_ok H (l₇' _ _ hp') (ls := rs ++ [((x : Int), s, k)]) (fun σ' l => .of (l _ _ e₇)) hr' hpl hm hPz (by simp; exact ar200 hrl) fun q₈ σ₈ hq₈ l₈ e₈ => ?_)
      refine O2_neP (((l₅.trans l₇).trans l₈) _ _ e₄) e₈ ⟨_, rfl, ?_⟩
      rw [hk, decide_eq_false (fun q => q rfl)]
      refine ⟨fun q => (by cases q), fun _ => XS_nil ?_⟩
      have l₈' := l₇'.trans l₈
      obtain ⟨aj, hitem₈, haj⟩ := (hLL.le l₈').item (y := y) (i := x) (by exact ar141 hl hx) (by exact ar140 hm hl)
      refine XS_cons (X_comp1 (sck he) (by rw [swaps_env (env' := envS _) he]; rfl) (kd he) (E_sub (E_var he (u := .val (.ref b)) (by exact el) (E_var he (u := .int (x : Int)) rfl ⟨_, hitem₈, intVs (Lq.getD x []), fun cenv hc => ?_⟩))))
      have hc := relabel_S he hc
      refine CL_pure (src := .val (.ref aj)) (all := intVs (Lq.getD x [])) (σ₀ := σ₈) (p := onV .int (satB ((x : Int), s, k))) (F := fun x v _ => v = x) (fun ρ => ρ "literal" = some (lv ((x : Int), s, k))) (fun x ρ => ρ "v" = some x) (fun σ'' l => .of (l _ _ haj)) (fun x v σ' σ'' h _ => h) _ ?_ ?_ ?_ [] _ σ₈ (by rfl) (.refl _) (by rw [List.length_nil, Nat.zero_add]; unfold intVs; rw [List.length_map]; exact ar8 h6x) ?_
      · intro x hx ρ σ' R hJ hl hR
        exact T_var hc (hR _ (by rw [upd_ne (by decide)]; exact hJ) (upd_self ..)) (fun h => by cases h)
      · intro x' hxm ρ₂ σ₂ B₂ hJ₂ hG₂ hl₂ hB₂
        obtain ⟨v, hv, rfl⟩ := List.mem_map.mp hxm
        rw [onV_eq (fun a b h => by injection h)] at hB₂
        refine B_val (E_fcall hc (globFact H (k := 19) (by rfl) (by rfl)) (F_law_meets H).keeps (E_var hc (u := .int v) hG₂ (E_var hc (u := lv ((x : Int), s, k)) hJ₂ (CallK.v (law_meets_ok H ⟨_, rfl, ?_⟩)))))
        have := hB₂ σ₂ (.refl _)
        cases hs : satB ((x : Int), s, k) v <;> rw [hs] at this <;> exact this
      · intro x' hxm ρ₂ σ₂ Q₂ hJ₂ hG₂ _ hl₂ hQ₂
        exact E_var hc hG₂ (hQ₂ x' σ₂ (.refl _) rfl)
      · intro vs ρ₂ σ₉ _ l₉ hln hvs q hq
        have ev := all_same (F := fun x v _ => v = x) (σ' := σ₉) (fun _ _ h => h) hln hvs
        have ef : (intVs (Lq.getD x [])).filter (onV .int (satB ((x : Int), s, k))) = intVs ((Lq.getD x []).filter (satB ((x : Int), s, k))) := filter_vals fun a => onV_eq (fun a b h => by injection h) a
        rw [ef] at ev
        rw [List.nil_append, ev]
        have hlate : ((Lq.getD x []).filter (satB ((x : Int), s, k))).length ≤ 1000 := Nat.le_trans (List.length_filter_le ..) h6x
        generalize (Lq.getD x []).filter (satB ((x : Int), s, k)) = late at h1 h2 hrest hlate ⊢
        have l₁₀ := l₉.trans (St.Le.put (x := .list (intVs late)) hq)
        have e₁₀ : (σ₉.put q (.list (intVs late))) q = some (.list (intVs late)) := St.put_self ..
        generalize σ₉.put q (.list (intVs late)) = σ₁₀ at l₁₀ e₁₀ ⊢
        have ll₁₀ := l₈'.trans l₁₀
        refine XS_cons (X_if (B_boolop ?_))
        refine B_compare (E_var he (u := .val (.ref q)) rfl (E_list ⟨by simp, fun b11 hb11 => ?_⟩))
        have l₁₁ := St.Le.put (x := .list []) hb11
        refine O2_eqI (k := []) (l₁₁ _ _ e₁₀) (St.put_self ..) ⟨_, rfl, ?_⟩
        rw [decide_eq_false h1]
        show BAll _ _ _ _ _ _ _ _
        have e₁₁ := l₁₁ _ _ e₁₀
        have ll₁₁ := ll₁₀.trans l₁₁
        generalize σ₁₀.put b11 (.list []) = σ₁₁ at l₁₁ e₁₁ ll₁₁ ⊢
        obtain ⟨ak, hitem₁₁, hak⟩ := (hLL.le ll₁₁).item (y := y) (i := x) (by exact ar141 hl hx) (by exact ar140 hm hl)
        refine B_compare (E_var he (u := .val (.ref q)) rfl (E_sub (E_var he (u := .val (.ref b)) (by exact el) (E_var he (u := .int (x : Int)) rfl ⟨_, hitem₁₁, O2_eqI e₁₁ hak ⟨_, rfl, ?_⟩⟩))))
        rw [decide_eq_false h2]
        show KIf _ _ _ _ _ _ _ _ _ _
        refine ⟨fun q => (by cases q), fun _ => XS_nil ?_⟩
        obtain ⟨as, b1, b2, b3'⟩ := (hLL.le ll₁₁).set (i := x) (by exact ar141 hl hx) e₁₁
        refine XS_cons (X_assign (E_var he (u := .val (.ref q)) rfl (T_sub (E_var he (u := .val (.ref b)) (by exact el) (E_var he (u := .int (x : Int)) rfl ⟨b, _, (x : Int), x, rfl, rfl, b1, by simp; exact ar201 hm hl b2, by rw [seqIndex_pos (by exact ar9) (by simp; exact ar202 hl hx b2)]; simp, ?_⟩)))))
        refine XS_nil ⟨Lq.set x late, u', rfl, hrest, b3', by simp [hl], fun l hl' => ?_, lb.trans ((St.LeB.of ll₁₁).trans fun q z nq e => ?_), by exact el, by exact ea⟩
        · rcases List.mem_or_eq_of_mem_set hl' with h | h
          · exact h6' l h
          · rw [h]; exact hlate
        · rw [St.put_ne nq]; exact e
end
end Mine
end
section
open PySem PySem.W PySem.Calls PyProof.Rows
set_option maxRecDepth 100000
set_option linter.unusedVariables false
namespace Mine
noncomputable abbrev SE := Array (Int × Value)
noncomputable def addT (t : SetTable) (es : SE) (h : Int) (x : Value) : SE × SetTable :=
  let L := layNew t es h x
  if (!L.2.2.1 && L.2.1.tooFull) = true then ((relayAll L.2.1 L.1 (SetTable.grown L.1.size)).1, (relayAll L.2.1 L.1 (SetTable.grown L.1.size)).2.1) else (L.1, L.2.1)
noncomputable def er (es : SE) : SE := es.map fun e => (e.1, Value.none)
theorem er_size (es : SE) : (er es).size = es.size := by simp [er]
theorem er_insert (es : SE) (p : Nat) (h : Int) (x : Value) : er (SetTable.insertAt es p (h, x)) = SetTable.insertAt (er es) p (h, .none) := by
  apply Array.toList_inj.mp
  rw [SetTable.toList_insertAt]
  simp [er, SetTable.toList_insertAt]
theorem er_layNew (t : SetTable) (es : SE) (h : Int) (x : Value) : layNew t (er es) h .none = (er (layNew t es h x).1, (layNew t es h x).2) := by
  unfold layNew
  split
  · rename_i slot wasDummy e
    dsimp only
    rw [er_insert, ← er_insert (x := x), er_size]
  · dsimp only
    rw [er_size]
    simp [er]
theorem er_relay (t : SetTable) (es : SE) (n : Nat) : relayAll t (er es) n = (er (relayAll t es n).1, (relayAll t es n).2) := by
  have e1 : (er es).map (·.1) = es.map (·.1) := by simp [er]
  unfold relayAll
  rw [e1, er_size]
  split
  · rename_i t' order e
    dsimp only
    have e2 : order.filterMap ((er es)[·]?) = er (order.filterMap (es[·]?)) := by
      apply Array.toList_inj.mp
      simp only [er, Array.toList_filterMap, Array.toList_map, Array.getElem?_map]
      rw [List.map_filterMap]
    rw [e2, er_size]
    split <;> rfl
  · rfl
theorem er_addT (t : SetTable) (es : SE) (h : Int) (x : Value) : addT t (er es) h .none = (er (addT t es h x).1, (addT t es h x).2) := by
  unfold addT
  rw [er_layNew t es h x]
  dsimp only
  rw [er_size, er_relay]
  split <;> rfl
noncomputable def slotOf (t : SetTable) (i : Nat) : Nat := if i = 0 then 0 else t.place.getD (i - 1) 0 + 1
noncomputable def goodT (led : Bool) (k : Nat) (st : SE × SetTable) : Bool := st.2.plain && (st.2.led == led) && st.2.fits st.1.size && (st.1.size == k) && ((List.range (k + 1)).all fun i => SetTable.below st.2.place (slotOf st.2 i) == i)
noncomputable def stepT0 (st : SE × SetTable) (v : Int) : SE × SetTable := addT st.2 st.1 (hashInt v) .none
noncomputable def allGood (led : Bool) (al : List Int) : Nat → List Int → SE × SetTable → Bool
  | 0, sq, st => goodT led sq.length st
  | n + 1, sq, st => goodT led sq.length st && al.all fun v => sq.contains v || allGood led al n (sq ++ [v]) (stepT0 st v)
theorem good3 (led : Bool) : allGood led [-1, 0, 1] 3 [] (#[], .fresh 0 0 led) = true := by cases led <;> decide +kernel
theorem good3' (led : Bool) : allGood led [1, 2, 3] 3 [] (#[], .fresh 0 0 led) = true := by cases led <;> decide +kernel
noncomputable def Few (l : List Int) : Prop := (∀ v ∈ l, v = -1 ∨ v = 0 ∨ v = 1) ∨ (∀ v ∈ l, v = 1 ∨ v = 2 ∨ v = 3)
theorem good_of {led : Bool} {al : List Int} : ∀ (n : Nat) (sq : List Int) (st : SE × SetTable) (r : List Int), allGood led al n sq st = true → r.length ≤ n → (sq ++ r).Nodup → (∀ v ∈ r, v ∈ al) → goodT led (sq ++ r).length (r.foldl stepT0 st) = true
  | 0, sq, st, [], h, _, _, _ => by simpa [allGood] using h
  | 0, sq, st, _ :: _, h, hl, _, _ => by simp at hl
  | n + 1, sq, st, [], h, _, _, _ => by
    unfold allGood at h
    rw [Bool.and_eq_true] at h
    simpa using h.1
  | n + 1, sq, st, v :: r, h, hl, hn, ha => by
    unfold allGood at h
    rw [Bool.and_eq_true] at h
    have := List.all_eq_true.mp h.2 v (ha v (.head _))
    rw [Bool.or_eq_true] at this
    have hv : sq.contains v = false := by
      rw [Bool.eq_false_iff]
      intro q
      have hv : v ∈ sq := by simpa using q
      rw [List.nodup_append] at hn
      exact hn.2.2 v hv v (.head _) rfl
    rw [hv] at this
    have key := good_of n (sq ++ [v]) (stepT0 st v) r (by simpa using this) (by simpa using hl) (by simpa using hn) (fun w hw => ha w (.tail _ hw))
    rw [List.foldl_cons]
    have e : sq ++ v :: r = sq ++ [v] ++ r := by simp
    rw [e]; exact key
theorem nodup_len : ∀ {l : List Int} {al : List Int}, l.Nodup → (∀ v ∈ l, v ∈ al) → l.length ≤ al.length
  | [], al, _, _ => by simp
  | v :: l, al, hn, h => by
    obtain ⟨h1, h2⟩ := List.nodup_cons.mp hn
    have hv := h v (.head _)
    have := nodup_len (l := l) (al := al.erase v) h2 fun w hw => by
      have : w ≠ v := by rintro rfl; exact h1 hw
      exact (List.mem_erase_of_ne this).mpr (h w (.tail _ hw))
    rw [List.length_erase_of_mem hv] at this
    have := List.length_pos_of_mem hv
    rw [List.length_cons]; exact ar345 (by assumption) this
theorem good_few {led : Bool} {sq : List Int} (hf : Few sq) (hn : sq.Nodup) : goodT led sq.length (sq.foldl stepT0 (#[], .fresh 0 0 led)) = true := by
  rcases hf with hf | hf
  · have := good_of 3 [] _ sq (good3 led) (nodup_len (al := [-1, 0, 1]) hn fun v hv => by rcases hf v hv with rfl | rfl | rfl <;> simp) (by simpa using hn) (fun v hv => by rcases hf v hv with rfl | rfl | rfl <;> simp)
    simpa using this
  · have := good_of 3 [] _ sq (good3' led) (nodup_len (al := [1, 2, 3]) hn fun v hv => by rcases hf v hv with rfl | rfl | rfl <;> simp) (by simpa using hn) (fun v hv => by rcases hf v hv with rfl | rfl | rfl <;> simp)
    simpa using this

structure SetN (led : Bool) (sq : List Int) (o : Obj) : Prop where
  at' : ∃ es ep t, o.ExactSet ∧ o.data = .set es ep t ∧ (er es, t) = sq.foldl stepT0 (#[], .fresh 0 0 led) ∧ (∀ e ∈ es.toList, ∃ v ∈ sq, ∃ tk, e = (hashInt v, .int v tk)) ∧ es.toList.length = sq.length ∧ (∀ v ∈ sq, ∃ e ∈ es.toList, e.1 = hashInt v ∧ ∃ tk, e.2 = .int v tk)
theorem setN_nil {led : Bool} : SetN led [] { cls := .type "set", dict := none, data := .set #[] 0 (.fresh 0 0 led) } := ⟨#[], 0, _, ⟨rfl, rfl, rfl⟩, rfl, by simp [er], by simp, rfl, by simp⟩
theorem SetN.good {led : Bool} {sq : List Int} {o : Obj} (h : SetN led sq o) (hf : Few sq) (hn : sq.Nodup) : ∃ es ep t, o.ExactSet ∧ o.data = .set es ep t ∧ (er es, t) = sq.foldl stepT0 (#[], .fresh 0 0 led) ∧ (∀ e ∈ es.toList, ∃ v ∈ sq, ∃ tk, e = (hashInt v, .int v tk)) ∧ es.size = sq.length ∧ (∀ v ∈ sq, ∃ e ∈ es.toList, e.1 = hashInt v ∧ ∃ tk, e.2 = .int v tk) ∧
    t.plain = true ∧ t.led = led ∧ t.fits es.size = true ∧ (∀ i, i ≤ es.size → SetTable.below t.place (slotOf t i) = i) := by
  obtain ⟨es, ep, t, h1, h2, h3, h4, h5, h6⟩ := h.at'
  have g := good_few (led := led) hf hn
  rw [← h3] at g
  unfold goodT at g
  simp only [Bool.and_eq_true, beq_iff_eq, er_size, List.all_eq_true, List.mem_range] at g
  obtain ⟨⟨⟨⟨g1, g2⟩, g3⟩, g4⟩, g5⟩ := g
  exact ⟨es, ep, t, h1, h2, h3, h4, g4, h6, g1, g2, g3, fun i hi => g5 i (by exact ar346 g4 hi)⟩

section
variable {prog : Program} {w : World} {A : Around} {E : Value → Shared → Prop} {s : Shared} {led : Bool} {sq : List Int}
theorem addT_perm (t : SetTable) (es : SE) (h : Int) (x : Value) : ((addT t es h x).1.toList).Perm (es.toList ++ [(h, x)]) := by
  have hp := layNew_perm t es h x
  rw [Array.toList_push] at hp
  unfold addT
  dsimp only
  split
  · exact (relayAll_perm ..).trans hp
  · exact hp
theorem elemsI {es : SE} (h : ∀ e ∈ es.toList, ∃ v ∈ sq, ∃ tk, e = (hashInt v, Value.int v tk)) : ElemsOf (PySem.intKind prog w) es.toList := fun e he => by
  obtain ⟨v, _, tk, rfl⟩ := h e he
  exact ⟨⟨v, intKind_is _ _ _ _, rfl⟩, rfl⟩
theorem setN_add {a : Addr} {o : Obj} {v : Int} {tk : Tok} {Q : Bool → Shared → Prop} (hf : Few sq) (hn : sq.Nodup) (ho : s.heap.get? a = some o) (hS : SetN led sq o)
    (h : ∀ h' o', Heap.SameBut a s.heap h' → h'.get? a = some o' → SetN led (if v ∈ sq then sq else sq ++ [v]) o' → ∀ b, Q b { s with heap := h' }) :
    wpAny (model prog w) A (setAddHashed a (.int v tk) ((PySem.intKind prog w).hash v)) Q E s := by
  obtain ⟨es, ep, t, hex, hd, he, hel', hl, hmem, hpl, hled, hft, _⟩ := hS.good hf hn
  have hel : ElemsOf (PySem.intKind prog w) es.toList := elemsI hel'
  have hl3 : sq.length ≤ 3 := by
    rcases hf with hf | hf
    · exact nodup_len (al := [-1, 0, 1]) hn fun v hv => by rcases hf v hv with rfl | rfl | rfl <;> simp
    · exact nodup_len (al := [1, 2, 3]) hn fun v hv => by rcases hf v hv with rfl | rfl | rfl <;> simp
  have hkey : (PySem.intKind prog w).is v (.int v tk) = true := intKind_is _ _ _ _
  have hb : es.size < scanBound := by show es.size < 4096; exact ar347 hl hl3
  unfold setAddHashed setAddHashedIn
  refine wpAny_holding (wpAny_bind (wpAny_setState_of ho hd hft ?_))
  dsimp only
  rw [byScan_of (knd := PySem.intKind prog w) rfl hb hel]
  simp only [↓reduceIte]
  unfold setAddByScan
  refine wpAny_bind ?_
  refine wpAny_bind (wpAny_rule ?_)
  refine wpAny_bind (wpAny_setScan_of hkey ho hd hft hel ?_)
  cases hr : List.findIdx? (fun e => (PySem.intKind prog w).is v e.2) es.toList with
  | some j =>
    dsimp only
    obtain ⟨hj, hpj, _⟩ := List.findIdx?_eq_some_iff_getElem.mp hr
    have hv : v ∈ sq := by
      obtain ⟨u, hu, tk', e⟩ := hel' _ (List.getElem_mem hj)
      rw [e] at hpj
      have := (PySem.intKind prog w).inj _ _ _ hpj (intKind_is _ _ u tk')
      rw [this]; exact hu
    rw [if_pos hv] at h
    refine wpAny_pure (wpAny_pure ?_)
    have e : s = { s with heap := s.heap } := by cases s; rfl
    rw [e]
    exact h s.heap o (Heap.SameBut.refl a s.heap) ho hS _
  | none =>
    dsimp only
    have hv : v ∉ sq := fun hv => by
      obtain ⟨e, he, _, tk', e'⟩ := hmem v hv
      have := List.findIdx?_eq_none_iff.mp hr e he
      rw [e'] at this
      rw [intKind_is] at this; cases this
    rw [if_neg hv] at h
    have hgw : ∀ (b : Bool) {s₁ : Shared} {Q' : Unit → Shared → Prop}, Q' () s₁ → wpAny (model prog w) A (match b with | true => rule "set.scan.the-table-gave-way" | false => pure ()) Q' E s₁ :=
      fun b s₁ Q' hq => by cases b <;> first | exact wpAny_pure hq | exact wpAny_rule hq
    have hperm := layNew_perm t es ((PySem.intKind prog w).hash v) (.int v tk)
    have hfits := layNew_fits t es ((PySem.intKind prog w).hash v) (.int v tk)
    have hadd : addT t es ((PySem.intKind prog w).hash v) (.int v tk) = addT t es ((PySem.intKind prog w).hash v) (.int v tk) := rfl
    conv at hadd => rhs; unfold addT
    have hap := addT_perm t es (hashInt v) (.int v tk)
    have hN : ∀ (o' : Obj) (ep' : Nat), o'.ExactSet → o'.data = .set (addT t es ((PySem.intKind prog w).hash v) (.int v tk)).1 ep' (addT t es ((PySem.intKind prog w).hash v) (.int v tk)).2 → SetN led (sq ++ [v]) o' := fun o' ep' x1 x2 => by
      have x2 : o'.data = .set (addT t es (hashInt v) (.int v tk)).1 ep' (addT t es (hashInt v) (.int v tk)).2 := x2
      refine ⟨_, ep', _, x1, x2, ?_, fun e he => ?_, ?_, fun u hu => ?_⟩
      · rw [List.foldl_append, ← he]
        show _ = stepT0 (er es, t) v
        unfold stepT0
        rw [er_addT]
      · rcases List.mem_append.mp (hap.mem_iff.mp he) with he | he
        · obtain ⟨u, hu, tk', e'⟩ := hel' e he
          exact ⟨u, by simp [hu], tk', e'⟩
        · rw [List.mem_singleton] at he
          exact ⟨v, by simp, tk, he⟩
      · rw [hap.length_eq, List.length_append, List.length_append, Array.length_toList, hl]; rfl
      · rcases List.mem_append.mp hu with hu | hu
        · obtain ⟨e, he, r⟩ := hmem u hu
          exact ⟨e, hap.mem_iff.mpr (by simp only [List.mem_append]; exact .inl he), r⟩
        · rw [List.mem_singleton] at hu
          subst hu
          exact ⟨(hashInt u, .int u tk), hap.mem_iff.mpr (by simp), rfl, tk, rfl⟩
    generalize hL : layNew t es ((PySem.intKind prog w).hash v) (.int v tk) = L at hperm hfits hadd ⊢
    obtain ⟨es1, t1, wasDummy, gave⟩ := L
    dsimp only at hperm hfits hadd ⊢
    have hsz1 : es1.size = es.size + 1 := by rw [← Array.length_toList, hperm.length_eq, Array.length_toList]; simp
    refine wpAny_bind (hgw _ ?_)
    have tail : ∀ (g : Bool → Sem Unit), (∀ (b : Bool) (s₁ : Shared) (Q' : Unit → Shared → Prop), Q' () s₁ → wpAny (model prog w) A (g b) Q' E s₁) → wpAny (model prog w) A (do
        storeSet a es1 t1
        if (!wasDummy && t1.tooFull) = true then do
            g (relayAll t1 es1 (SetTable.grown es1.size)).2.2
            storeSet a (relayAll t1 es1 (SetTable.grown es1.size)).1 (relayAll t1 es1 (SetTable.grown es1.size)).2.1
            pure (some true)
          else pure (some true)) (fun r s' => ∀ b, Q b s' ∧ r = some true) E s := fun g hg => by
      refine wpAny_bind (wpAny_storeSet_of ho hd ?_ (by rw [hsz1, sizeLine_eq]; exact ar348 hl hl3))
      have hg1 : (s.heap.update a (Obj.putSet es1 t1)).get? a = some { o with data := .set es1 (ep + 1) t1 } := by
        have := Heap.get?_update_self (Obj.putSet es1 t1) ho (by rw [putSet_of es1 t1 hd]; rfl)
        rw [putSet_of es1 t1 hd] at this; exact this
      have hsb1 := Heap.SameBut.update s.heap a (Obj.putSet es1 t1)
      split
      · rename_i hc
        rw [if_pos hc] at hadd
        refine wpAny_bind (hg _ _ _ ?_)
        have hsz2 : (relayAll t1 es1 (SetTable.grown es1.size)).1.size = es1.size := by rw [← Array.length_toList, (relayAll_perm ..).length_eq, Array.length_toList]
        refine wpAny_bind (wpAny_storeSet_of hg1 rfl ?_ (by rw [hsz2, hsz1, sizeLine_eq]; exact ar348 hl hl3))
        have hg2 := Heap.get?_update_self (Obj.putSet (relayAll t1 es1 (SetTable.grown es1.size)).1 (relayAll t1 es1 (SetTable.grown es1.size)).2.1) hg1 (by rw [putSet_of _ _ rfl]; rfl)
        rw [putSet_of _ _ rfl] at hg2
        refine wpAny_pure fun b => ⟨h _ _ (hsb1.trans (Heap.SameBut.update _ a _)) hg2 (hN _ (ep + 1 + 1) ⟨hex.1, hex.2.1, hex.2.2⟩ ?_) b, rfl⟩
        rw [hadd]
      · rename_i hc
        rw [if_neg hc] at hadd
        refine wpAny_pure fun b => ⟨h _ _ hsb1 hg1 (hN _ (ep + 1) ⟨hex.1, hex.2.1, hex.2.2⟩ ?_) b, rfl⟩
        rw [hadd]
    have done : ∀ {t : Sem (Option Bool)} {k : Nat}, wpAny (model prog w) A t (fun r s' => ∀ b, Q b s' ∧ r = some true) E s → wpAny (model prog w) A t (fun r s' => wpAny (model prog w) A (match r with | some added => pure added | none => setAddHashedIn a (.int v tk) ((PySem.intKind prog w).hash v) k) Q E s') E s := fun ht =>
      wpAny_mono ht (fun r s' hr => by
        obtain ⟨_, rfl⟩ := hr true
        exact wpAny_pure (hr true).1) fun _ _ e => e
    split
    · refine wpAny_bind ?_
      rw [hashByValue_scannable 8 (x := .int v tk) rfl]
      refine wpAny_pure ?_
      exact done (tail _ fun b s₁ Q' hq => by cases b <;> first | exact wpAny_pure hq | exact wpAny_rule hq)
    · refine wpAny_bind (wpAny_pure ?_)
      exact done (tail _ fun b s₁ Q' hq => by cases b <;> first | exact wpAny_pure hq | exact wpAny_rule hq)
end
end Mine
end
section
open PySem PySem.W PySem.Calls PyProof.Rows
set_option maxRecDepth 100000
set_option linter.unusedVariables false
namespace Mine
noncomputable def met1 (sq : List Int) (v : Int) : List Int := if v ∈ sq then sq else sq ++ [v]
noncomputable def metL (l : List Int) : List Int := l.foldl met1 []
theorem met_mem : ∀ (l sq : List Int) (v : Int), v ∈ l.foldl met1 sq ↔ v ∈ sq ∨ v ∈ l
  | [], sq, v => by simp
  | u :: l, sq, v => by
    rw [List.foldl_cons, met_mem l]
    unfold met1
    split
    · rename_i h
      constructor
      · rintro (q | q)
        · exact .inl q
        · exact .inr (.tail _ q)
      · rintro (q | q)
        · exact .inl q
        · rcases List.mem_cons.mp q with rfl | q
          · exact .inl h
          · exact .inr q
    · simp [or_assoc]
theorem met_nodup : ∀ (l sq : List Int), sq.Nodup → (l.foldl met1 sq).Nodup
  | [], sq, h => h
  | u :: l, sq, h => by
    rw [List.foldl_cons]
    refine met_nodup l _ ?_
    unfold met1
    split
    · exact h
    · rename_i hu
      rw [List.nodup_append]
      exact ⟨h, by simp, fun a ha b hb => by rw [List.mem_singleton] at hb; subst hb; rintro rfl; exact hu ha⟩
theorem Few.sub {l k : List Int} (h : Few l) (hk : ∀ v ∈ k, v ∈ l) : Few k := h.elim (fun h => .inl fun v hv => h v (hk v hv)) fun h => .inr fun v hv => h v (hk v hv)
theorem met_few {l : List Int} (h : Few l) : Few (metL l) := h.sub fun v hv => by simpa using (met_mem l [] v).mp hv
noncomputable def ledOf (w : World) : Bool := !(w.params.followText "set-order")

section
variable {prog : Program} {w : World} {A : Around} {E : Value → Shared → Prop} {R : Result → Shared → Prop} {s : Shared}
theorem set_new_1 (a : Value) {Q₁ : Value → Shared → Prop}
    (h : Q₁ (.ref s.heap.objs.size) { s with heap := s.heap.push { cls := .type "set", dict := none, data := .set #[] 0 (.fresh 0 0 (ledOf w)) } }) :
    codeAny (model prog w) A (.call (.builtin "set.__new__") ⟨[.type "set", a], []⟩) (wants Q₁ E) s := by
  refine codeAny_of_tree ?_
  show wpAny _ A.in1 (do checkBuiltinCall "set.__new__" ⟨[.type "set", a], []⟩; again (.builtin "set.__new__" ⟨[.type "set", a], []⟩)) _ _ s
  refine wpAny_bind (wpAny_of_eq (F.newCall_set_1 a) (wpAny_pure ⟨plainId_quiet F.plain_set_new _, codeAny_builtin F.entry_set_new ?_⟩))
  rw [Around.under_plainId F.plain_set_new _]
  unfold Builtin.«set.__new__» Builtin.Frozenset.newClass
  have hsub := sub_set_self
  obtain ⟨hp, g, d, tk, os⟩ := s
  dsimp only
  wp_walk
  refine wpAny_askSetting (wpAny_pure ?_)
  dsimp only
  simp only [newObj]
  refine wpAny_bind (wpAny_alloc (wpAny_pure ?_))
  exact wpAny_pure h
theorem set_loop {led : Bool} {S l I : Addr} {items : Array Value} {ns : List Int} (hh : A.in1.handled = none) (hi : IntsAre items.toList ns) (hf : Few ns) (hne : l ≠ I) (hS : S ≠ I) (hSl : S ≠ l) :
    ∀ (k i : Nat) (s : Shared), items.size - i = k → i ≤ items.size → (s.heap.IsListIter I l i ∧ s.heap.IsList l items) → (∃ o, s.heap.get? S = some o ∧ SetN led (metL (ns.take i)) o) →
      (∀ h' tk o, (∀ b x, b ≠ S → b ≠ I → s.heap.get? b = some x → h'.get? b = some x) → h'.get? S = some o → SetN led (metL ns) o → R (.ok (.ret .none)) (sw s h' tk)) →
      codeAny (model prog w) A (.builtin "set.update.loop" ⟨[.ref S, .ref I], []⟩) R s := by
  have hlen := hi.length
  rw [Array.length_toList] at hlen
  intro k
  induction k with
  | zero =>
    intro i s hk hile hst ⟨o, ho, hSN⟩ hR
    have hin : i = items.size := by exact ar352 hk hile
    subst hin
    refine codeAny_builtin PyProof.Rows.F.entry_set_update_loop ?_
    rw [Around.under_plainId PyProof.Rows.F.plain_set_update_loop _]
    show wpAny _ A.in1 (pyNext (.ref I) >>= _) _ _ s
    refine wpAny_bind (wpAny_pyNext_list_end hh hst.1 hst.2 (by simp) fun h' he => ?_)
    show wpAny _ A.in1 (ret Value.none) _ _ _
    rw [hlen, List.take_length] at hSN
    exact wpAny_pure (hR h' s.toks o (fun b x _ hb e => he b x hb e) (he S o hS ho) hSN)
  | succ k ih =>
    intro i s hk hile hst ⟨o, ho, hSN⟩ hR
    have hlt : i < items.size := by exact ar353 hk
    refine codeAny_builtin PyProof.Rows.F.entry_set_update_loop ?_
    rw [Around.under_plainId PyProof.Rows.F.plain_set_update_loop _]
    show wpAny _ A.in1 (pyNext (.ref I) >>= _) _ _ s
    refine wpAny_bind (wpAny_pyNext_list_item hst.1 hst.2 (x := items[i]) (by simp [hlt]) fun h' it' hs => ?_)
    obtain ⟨t, ev⟩ := IntsAre.int_at hi i items[i] (by simp [hlt])
    rw [ev]
    have hlt' : i < ns.length := by exact ar155 hlen hlt
    have en : ns.getD i 0 = ns[i] := by simp [hlt']
    rw [en]
    have ho' : h'.get? S = some o := hs.extBut S o hS ho
    have hst' : h'.IsListIter I l (i + 1) ∧ h'.IsList l items := ⟨it', let ⟨ol, hol, r⟩ := hst.2; ⟨ol, hs.extBut l ol hne hol, r⟩⟩
    show wpAny _ A.in1 (holding [Value.int ns[i] t] (setAdd S (.int ns[i] t)) >>= _) _ _ _
    refine wpAny_bind (wpAny_holding ?_)
    unfold setAdd
    refine wpAny_holding ?_
    refine wpAny_bind ((PySem.intKind prog w).pyHash (k := ns[i]) (intKind_is _ _ _ _) ?_)
    have htk : ns.take (i + 1) = ns.take i ++ [ns[i]] := by rw [List.take_add_one, List.getElem?_eq_getElem hlt']; rfl
    have hfew : Few (metL (ns.take i)) := met_few (hf.sub fun v hv => List.mem_of_mem_take hv)
    refine setN_add (s := sw s h' (s.toks + 1)) hfew (met_nodup _ _ (by simp)) ho' hSN fun h2 o2 hsb ho2 hSN2 b => ?_
    have e2 : (if ns[i] ∈ metL (ns.take i) then metL (ns.take i) else metL (ns.take i) ++ [ns[i]]) = metL (ns.take (i + 1)) := by
      rw [htk]; unfold metL; rw [List.foldl_append]; rfl
    rw [e2] at hSN2
    refine wpAny_pure ⟨plainId_quiet PyProof.Rows.F.plain_set_update_loop _, ?_⟩
    refine ih (i + 1) _ (by exact ar354 hk) hlt ⟨?_, ?_⟩ ⟨o2, ho2, hSN2⟩ fun h3 tk3 o3 k3 ho3 hSN3 => ?_
    · obtain ⟨oi, hoi, r⟩ := hst'.1
      exact ⟨oi, hsb.extBut I oi (Ne.symm hS) hoi, r⟩
    · obtain ⟨ol, hol, r⟩ := hst'.2
      exact ⟨ol, hsb.extBut l ol (Ne.symm hSl) hol, r⟩
    · exact hR h3 tk3 o3 (fun b x hb1 hb2 e => k3 b x hb1 hb2 (hsb.extBut b x hb1 (hs.extBut b x hb2 e))) ho3 hSN3

set_option maxHeartbeats 3200000 in
theorem call_set {l : Addr} {items : Array Value} {ns : List Int} {Q : Value → Shared → Prop} (hh : A.handled = none) (hl : s.heap.IsList l items) (hi : IntsAre items.toList ns) (hf : Few ns)
    (h : ∀ (h' : Heap) (tk : Nat) (o : Obj), h'.get? s.heap.objs.size = some o → SetN (ledOf w) (metL ns) o → (∀ b x, s.heap.get? b = some x → h'.get? b = some x) → Q (.ref s.heap.objs.size) (sw s h' tk)) :
    wpAny (model prog w) A (call (.type "set") [.ref l]) Q E s := by
  obtain ⟨c, tl, hmro⟩ := F.called_set.mro
  have hmade := F.called_set.made
  have hsub := F.called_set.sub
  refine wpAny_call (codeAny_of_tree ?_)
  show wpAny _ _ (callAny (.type "set") _) _ _ _
  refine wpAny_pure ⟨Code.quiet_builtin _ (by decide +kernel), codeAny_builtin F.entry_type_call ?_⟩
  rw [Around.under_plain (weight_type_call_type "set" [.ref l] []) rfl]
  have h1 := F.called_set.notType
  have h2 := F.called_set.canCreate
  have hct := F.typeCall_set_1 (.ref l)
  repeat (any_goals (first | assumption | wp_step))
  refine codeAny_mono (set_new_1 (.ref l) (E := E) (Q₁ := fun obj s₁ => obj = .ref s.heap.objs.size ∧ s₁ = { s with heap := s.heap.push { cls := .type "set", dict := none, data := .set #[] 0 (.fresh 0 0 (ledOf w)) } }) ⟨rfl, rfl⟩) fun r s₁ hr => ?_
  cases r with
  | error e => exact hr
  | ok fl =>
    cases fl with
    | ret obj =>
      obtain ⟨rfl, rfl⟩ := hr
      have hS : (s.heap.push { cls := .type "set", dict := none, data := .set #[] 0 (.fresh 0 0 (ledOf w)) }).get? s.heap.objs.size = some { cls := .type "set", dict := none, data := .set #[] 0 (.fresh 0 0 (ledOf w)) } := Heap.get?_push_size _ rfl
      have hT : Shared.TypeIs { s with heap := s.heap.push { cls := .type "set", dict := none, data := .set #[] 0 (.fresh 0 0 (ledOf w)) } } (.ref s.heap.objs.size) "set" := ⟨_, hS, rfl⟩
      have hli := F.called_set.init.lookup
      have hbi := F.called_set.init.bind (.ref s.heap.objs.size)
      repeat (any_goals (first | assumption | wp_step))
      refine codeAny_mono (codeAny_call_builtin (R := wants (fun r s₂ => r = .none ∧ ∃ h' tk o, s₂ = (sw s h' tk) ∧ h'.get? s.heap.objs.size = some o ∧ SetN (ledOf w) (metL ns) o ∧
          (∀ b x, s.heap.get? b = some x → h'.get? b = some x)) E) F.called_set.init.plain F.entry_set_init (check_set_init_1 hT ?_)) fun r₂ s₂ hr₂ => ?_
      · obtain ⟨ol, hol, hcl, nl, hdl⟩ := hl
        obtain ⟨ocls, odict, odata, oslots⟩ := ol
        simp only at hcl hdl
        subst hcl; subst hdl
        have hol' : (s.heap.push { cls := .type "set", dict := none, data := .set #[] 0 (.fresh 0 0 (ledOf w)) }).get? l = some { cls := .type "list", dict := odict, data := .seq items nl, slots := oslots } := Heap.get?_push_of_some _ hol
        have hsls := F.sub_list_set
        have hslf := F.sub_list_frozenset
        have hne : (Value.type "list" == Value.type "dict") = false := by decide
        have hl1 : (s.heap.push { cls := .type "set", dict := none, data := .set #[] 0 (.fresh 0 0 (ledOf w)) }).IsList l items := ⟨_, hol', rfl, nl, rfl⟩
        unfold Builtin.«set.__init__» noKeywords Builtin.Frozenset.updateFrom
        generalize hPI : pyIter = PI
        wp_walk
        subst hPI
        refine wpAny_pyIter_list hl1 ?_
        refine wpAny_bind (wpAny_runValue ?_)
        have hlS : l < s.heap.objs.size := Heap.lt_size hol
        have hh3 : A.in1.in1.in1.handled = none := by simp [hh]
        have hneI : l ≠ (s.heap.push { cls := .type "set", dict := none, data := .set #[] 0 (.fresh 0 0 (ledOf w)) }).objs.size := by
          rw [Heap.size_push]; exact Nat.ne_of_lt (Nat.lt_succ_of_lt hlS)
        refine set_loop (led := ledOf w) (ns := ns) hh3 hi hf hneI (by rw [Heap.size_push]; exact Nat.ne_of_lt (Nat.lt_succ_self _)) (Nat.ne_of_gt hlS) (items.size - 0) 0 _ (by exact ar355) (Nat.zero_le _)
          ⟨⟨_, Heap.get?_push_size _ rfl, rfl, rfl⟩, (hl1.push _)⟩ ⟨_, Heap.get?_push_of_some _ hS, setN_nil⟩ fun h' tk' o k' ho hSN => ?_
        show wpAny _ _ _ _ _ _
        refine wpAny_pure ?_
        show wpAny _ _ (ret Value.none) _ _ _
        refine wpAny_pure ⟨rfl, h', tk', o, rfl, ho, hSN, fun b x e => ?_⟩
        have hb := Heap.lt_size e
        exact k' b x (Nat.ne_of_lt hb) (by rw [Heap.size_push]; exact Nat.ne_of_lt (Nat.lt_succ_of_lt hb)) (Heap.get?_push_of_some _ (Heap.get?_push_of_some _ e))
      · cases r₂ with
        | error e => exact hr₂
        | ok fl₂ =>
          cases fl₂ with
          | ret r =>
            obtain ⟨rfl, h', tk, o, rfl, ho, hSN, hk'⟩ := hr₂
            repeat (any_goals (first | assumption | wp_step))
            exact h _ _ o ho hSN hk'
          | _ => exact hr₂.elim
    | _ => exact hr.elim
end
noncomputable def iset (w : World) (sq : List Int) : AO := .own (fun _ o => SetN (ledOf w) sq o) (fun _ _ _ _ e => e) (fun h o e m => by
  obtain ⟨es, ep, t, _, hd, _⟩ := e.at'
  rcases m with ⟨_, vs, n, e⟩ | ⟨_, vs, e⟩ <;> rw [hd] at e <;> cases e)
section
variable {y : Sy} {n : Nat} {σ : St} {Q : V → St → Prop}
theorem C_set {a : Addr} {l : List Int} (e : σ a = some (.list (intVs l))) (hf : Few l) (h : ∀ b, σ b = none → Q (.val (.ref b)) (σ.put b (iset y.w (metL l)))) : CallV y n σ (.type "set") [.val (.ref a)] Q := fun A hA s vs I r E => by
  cases r with
  | cons r1 r2 =>
    cases r1; cases r2
    obtain ⟨ws, k, ho, rl⟩ := list_obj I e
    refine call_set hA.hd ⟨_, ho, rfl, k, rfl⟩ (by simpa using rl.toInts) hf fun h' tk o hS hSN hk => ?_
    obtain ⟨I₁, K₁, f⟩ := pushAs (x := iset y.w (metL l)) I hk hS fun _ => hSN
    exact ⟨_, _, _, rfl, I₁, K₁, _, .val _, h _ f⟩
end
end Mine
end
section
open PySem PySem.W PySem.Calls PyProof.Rows
set_option maxRecDepth 100000
set_option linter.unusedVariables false
namespace Mine
theorem pick_go {α : Type} (f : Nat → Nat) : ∀ (fuel k : Nat) (left : List α) (out : Array α), fuel = left.length → (pickOrder.go f fuel k left out).toList.Perm (out.toList ++ left) := by
  intro fuel
  induction fuel with
  | zero =>
    intro k left out h
    have : left = [] := List.length_eq_zero_iff.mp h.symm
    subst this
    show out.toList.Perm (out.toList ++ [])
    rw [List.append_nil]
  | succ fuel ih =>
    intro k left out h
    have hl : f k % left.length < left.length := Nat.mod_lt _ (by exact ar356 h)
    have e0 : pickOrder.go f (fuel + 1) k left out = pickOrder.go f fuel (k + 1) (left.eraseIdx (f k % left.length)) (out.push left[f k % left.length]) := by
      show (match left[f k % left.length]? with | some x => pickOrder.go f fuel (k + 1) (left.eraseIdx (f k % left.length)) (out.push x) | none => out) = _
      rw [List.getElem?_eq_getElem hl]
    rw [e0]
    refine (ih (k + 1) _ _ (by rw [List.length_eraseIdx_of_lt hl]; exact ar357 h)).trans ?_
    rw [Array.toList_push, List.append_assoc]
    refine List.Perm.append_left _ ?_
    rw [List.singleton_append, List.eraseIdx_eq_take_drop_succ]
    have e : left = left.take (f k % left.length) ++ left[f k % left.length] :: left.drop (f k % left.length + 1) := by
      rw [← List.drop_eq_getElem_cons hl, List.take_append_drop]
    conv => rhs; rw [e]
    exact List.perm_middle.symm
theorem pick_perm {α : Type} (f : Nat → Nat) (xs : Array α) : (pickOrder f xs).toList.Perm xs.toList := by
  unfold pickOrder
  have := pick_go f xs.size 0 xs.toList #[] (by simp)
  simpa using this

namespace SF
theorem entry_set_iter : entryFor table "set.__iter__" = some Builtin.«frozenset.__iter__» := entryFor_alias (id' := "frozenset.__iter__") (by kernel_rfl) rfl (by decide +kernel) (by kernel_rfl)
theorem slot_next : Slot "set_iterator" "__next__" "set_iterator.__next__" :=
  .of (owner := "set_iterator") (n := "__next__") (by rw [typeLookup_type, builtinLookup_eq_fast]; kernel_rfl) (by decide +kernel) (by decide +kernel) (by decide +kernel)
    (by first | exact .inl (by decide +kernel) | exact .inr (by decide +kernel)) (by rw [isSubtype_type]; kernel_rfl)
theorem entry_next : entryFor table "set_iterator.__next__" = some Builtin.«set_iterator.__next__» := entryFor_of_tree (by kernel_rfl)
theorem owner : Manifest.owners.lookup (String.ofList ['r', 'o', 't', 'a', 'r', 'e', 't', 'i', '_', 't', 'e', 's'].reverse) = some Manifest.sig_set_iterator := by kernel_rfl
theorem slot_iter : Slot "set_iterator" "__iter__" "set_iterator.__iter__" :=
  .of (owner := "set_iterator") (n := "__iter__") (by rw [typeLookup_type, builtinLookup_eq_fast]; kernel_rfl) (by decide +kernel) (by decide +kernel) (by decide +kernel)
    (by first | exact .inl (by decide +kernel) | exact .inr (by decide +kernel)) (by rw [isSubtype_type]; kernel_rfl)
theorem len_set : typeLookup (.type "set") "__len__" = pure (some (.builtin "set.__len__")) := by rw [typeLookup_type, builtinLookup_eq_fast]; kernel_rfl
theorem args_next (a : Value) : argsOk "set_iterator.__next__" ⟨[a], []⟩ := by
  unfold argsOk; rw [signature?_of (id := "set_iterator.__next__") (n := ['_', '_', 't', 'x', 'e', 'n', '_', '_']) (o := ['r', 'o', 't', 'a', 'r', 'e', 't', 'i', '_', 't', 'e', 's']) (by kernel_rfl) owner]; kernel_rfl
theorem entry_iter : entryFor table "set_iterator.__iter__" = some Builtin.«dict_keyiterator.__iter__» := entryFor_alias (id' := "dict_keyiterator.__iter__") (by kernel_rfl) rfl (by decide +kernel) (by kernel_rfl)
theorem args_iter (a : Value) : argsOk "set_iterator.__iter__" ⟨[a], []⟩ := by
  unfold argsOk; rw [signature?_of (id := "set_iterator.__iter__") (n := ['_', '_', 'r', 'e', 't', 'i', '_', '_']) (o := ['r', 'o', 't', 'a', 'r', 'e', 't', 'i', '_', 't', 'e', 's']) (by kernel_rfl) owner]; kernel_rfl
end SF
noncomputable def walkO (w : World) (a : Addr) (ep : Nat) (es : SE) : SE := if w.params.followText "set-order" then pickOrder (w.params.setOrder a ep) es else es
theorem walk_perm (w : World) (a : Addr) (ep : Nat) (es : SE) : (walkO w a ep es).toList.Perm es.toList := by
  unfold walkO; split
  · exact pick_perm _ _
  · exact List.Perm.refl _
theorem walk_size (w : World) (a : Addr) (ep : Nat) (es : SE) : (walkO w a ep es).size = es.size := by
  rw [← Array.length_toList, (walk_perm w a ep es).length_eq, Array.length_toList]
noncomputable def SetIt (w : World) (h : Heap) (I a : Addr) (i n ep : Nat) (t : SetTable) : Prop := ∃ slot : Nat, h.get? I = some { cls := .type "set_iterator", data := .fields #[rawInt slot, rawInt i, .ref a, rawInt n, rawInt ep] } ∧ (w.params.followText "set-order" = false → slot = slotOf t i)
section
variable {prog : Program} {w : World} {A : Around} {E : Value → Shared → Prop} {s : Shared} {a : Addr} {o : Obj} {es : SE} {ep : Nat} {t : SetTable}
theorem byText_wp {Q : Bool → Shared → Prop} (h : Q (w.params.followText "set-order") s) : wpAny (model prog w) A setsByText Q E s := by
  unfold setsByText
  exact wpAny_bind (wpAny_askSetting (wpAny_pure h))
theorem set_iter_wp {Q : Value → Shared → Prop} (ho : s.heap.get? a = some o) (hc : o.ExactSet) (hd : o.data = .set es ep t) (hf : t.fits es.size = true) (hp : t.plain = true)
    (hQ : Q (.ref s.heap.objs.size) { s with heap := s.heap.push { cls := .type "set_iterator", data := .fields #[rawInt 0, rawInt 0, .ref a, rawInt es.size, rawInt ep] } }) :
    wpAny (model prog w) A (pyIter (.ref a)) Q E s := by
  have hT : s.TypeIs (.ref a) "set" := ⟨o, ho, hc.1⟩
  refine wpAny_pyIter_slot hT F.slot_set_iter (wpAny_call_entry F.slot_set_iter hT SF.entry_set_iter ?_ (F.args_set_iter_1 _))
  unfold Builtin.«frozenset.__iter__»
  refine wpAny_bind ?_
  unfold Builtin.Frozenset.slot0
  refine wpAny_bind (wpAny_pure ?_)
  show wpAny _ _ (pure a) _ _ s
  refine wpAny_pure ?_
  refine wpAny_bind ?_
  unfold Builtin.Frozenset.sizeOf
  refine wpAny_bind (wpAny_setEntries_of ho hd hf (wpAny_pure ?_))
  refine wpAny_bind ?_
  unfold setDrawn
  refine wpAny_bind (wpAny_setState_of ho hd hf ?_)
  refine wpAny_bind (byText_wp ?_)
  refine wpAny_pure ?_
  have hdr : ∀ b : Bool, (!b && (!t.plain && decide (es.size > 1))) = false := fun b => by rw [hp]; simp
  refine wpAny_ite_split (fun hc => absurd hc ?_) (fun _ => ?_)
  · show ¬ ((!(w.params.followText "set-order") && (!t.plain && decide (es.size > 1))) = true)
    rw [hdr]; exact Bool.false_ne_true
  refine wpAny_bind (wpAny_pure ?_)
  refine wpAny_bind (wpAny_setEpoch_of ho hd hf ?_)
  exact wpAny_bind (wpAny_newObj_type (wpAny_pure ⟨_, rfl, "set_iterator", _, ⟨_, Heap.get?_push_size _ rfl, rfl⟩, SF.slot_next.lookup, hQ⟩))
theorem slot_step (h : ∀ i, i ≤ es.size → SetTable.below t.place (slotOf t i) = i) {i : Nat} (hi : i < es.size) (hf : t.fits es.size = true) : ∃ j, t.place[i]? = some j ∧ j + 1 = slotOf t (i + 1) := by
  simp only [SetTable.fits, Bool.and_eq_true, beq_iff_eq, decide_eq_true_eq] at hf
  have hp : i < t.place.size := by exact ar358 hi hf
  refine ⟨t.place[i], by simp [hp], ?_⟩
  unfold slotOf
  rw [if_neg (by exact ar241)]
  simp [hp]
theorem setNext_item {slot i : Nat} {Q : Option (Value × Nat) → Shared → Prop} (ho : s.heap.get? a = some o) (hd : o.data = .set es ep t) (hf : t.fits es.size = true) (hp : t.plain = true) (hl : t.led = ledOf w) (hb : ∀ i, i ≤ es.size → SetTable.below t.place (slotOf t i) = i)
    (hs : w.params.followText "set-order" = false → slot = slotOf t i) (hi : i ≤ es.size)
    (hQ : ∀ slot', (w.params.followText "set-order" = false → slot' = slotOf t (i + 1)) → Q (((walkO w a ep es)[i]?).map fun e => (e.2, slot')) s) :
    wpAny (model prog w) A (setNext a slot i ep) Q E s := by
  unfold setNext
  refine wpAny_bind (wpAny_setState_of ho hd hf ?_)
  dsimp only
  refine wpAny_bind (byText_wp ?_)
  have hw : walkO w a ep es = if w.params.followText "set-order" then pickOrder (w.params.setOrder a ep) es else es := rfl
  cases hc : w.params.followText "set-order" with
  | true =>
    rw [hc] at hw hQ hs
    refine wpAny_ite_split (fun _ => ?_) (fun h => absurd rfl h)
    refine wpAny_ite_split (fun h => absurd h (by simp)) (fun _ => ?_)
    refine wpAny_bind ?_
    unfold setWalk
    refine wpAny_bind (wpAny_setState_of ho hd hf ?_)
    dsimp only
    refine wpAny_bind (byText_wp ?_)
    rw [hc]
    refine wpAny_ite_split (fun _ => ?_) (fun h => absurd rfl h)
    refine wpAny_bind (wpAny_askSetting ?_)
    refine wpAny_pure (wpAny_pure ?_)
    have := hQ slot (fun h => by cases h)
    rw [hw] at this
    exact this
  | false =>
    rw [hc] at hw hQ hs
    refine wpAny_ite_split (fun h => by cases h) (fun _ => ?_)
    refine wpAny_ite_split (fun h => absurd h ?_) (fun _ => ?_)
    · show ¬ ((!t.plain && decide (es.size > 1)) = true)
      rw [hp]; simp
    refine wpAny_bind ?_
    show wpAny _ _ (if (!t.led && !es.isEmpty) = true then unsupported "set:maker-not-led" else pure ()) _ _ _
    refine wpAny_ite_split (fun h => absurd h ?_) (fun _ => ?_)
    · rw [hl]; unfold ledOf; rw [hc]; simp
    refine wpAny_pure ?_
    rw [hs rfl, hb i hi]
    have hw' : walkO w a ep es = es := by rw [hw]; simp
    by_cases hlt : i < es.size
    · obtain ⟨j, hj, e⟩ := slot_step hb hlt hf
      have := hQ (j + 1) (fun _ => e)
      rw [hw'] at this
      rw [hj]
      rw [Array.getElem?_eq_getElem hlt] at this ⊢
      exact wpAny_pure this
    · have := hQ 0
      rw [hw'] at this
      rw [Array.getElem?_eq_none (by exact ar4 hlt)] at this ⊢
      obtain ⟨q, hq⟩ : ∃ q, q = slotOf t (i + 1) := ⟨_, rfl⟩
      have := hQ q (fun _ => hq)
      rw [hw', Array.getElem?_eq_none (by exact ar4 hlt)] at this
      exact wpAny_pure this
theorem set_next {I : Addr} {i : Nat} {Q : Option Value → Shared → Prop} (hh : A.handled = none) (ho : s.heap.get? a = some o) (hd : o.data = .set es ep t) (hf : t.fits es.size = true) (hp : t.plain = true) (hl : t.led = ledOf w) (hb : ∀ i, i ≤ es.size → SetTable.below t.place (slotOf t i) = i)
    (hit : SetIt w s.heap I a i es.size ep t) (hi : i ≤ es.size)
    (hQ : ∀ x, (walkO w a ep es)[i]? = some x → ∀ h', SetIt w h' I a (i + 1) es.size ep t → Heap.ExtBut I s.heap h' → Q (some x.2) { s with heap := h' })
    (hE : i = es.size → ∀ h', Heap.ExtBut I s.heap h' → Q none { s with heap := h' }) :
    wpAny (model prog w) A (pyNext (.ref I)) Q E s := by
  obtain ⟨slot, hoi, hslot⟩ := id hit
  have hT : s.TypeIs (.ref I) "set_iterator" := ⟨_, hoi, rfl⟩
  unfold pyNext
  refine wpAny_bind (wpAny_attempt (wpAny_callSpecial?_slot (name := Str.ofString "__next__") hT SF.slot_next
    (wpAny_call_entry SF.slot_next hT SF.entry_next ?_ (SF.args_next _))))
  unfold Builtin.«set_iterator.__next__»
  refine wpAny_bind (wpAny_pure ?_)
  refine wpAny_bind (wpAny_fieldsOf hoi rfl ?_)
  dsimp only
  refine wpAny_bind (wpAny_setEntries_of ho hd hf ?_)
  show wpAny _ _ (if ((es.size : Int) != (es.size : Int)) = true then _ else _) _ _ _
  rw [if_neg (by simp)]
  show wpAny _ _ (setNext a (slot : Int).toNat (i : Int).toNat (ep : Int).toNat >>= _) _ _ s
  rw [Int.toNat_natCast, Int.toNat_natCast, Int.toNat_natCast]
  refine wpAny_bind (setNext_item ho hd hf hp hl hb hslot hi fun slot' hs' => ?_)
  by_cases hlt : i < es.size
  · obtain ⟨x, hx⟩ : ∃ x, (walkO w a ep es)[i]? = some x := ⟨(walkO w a ep es)[i]'(by rw [walk_size]; exact hlt), by rw [Array.getElem?_eq_getElem]⟩
    have hQ' := hQ x hx
    rw [hx]
    show wpAny _ _ (setField (.ref I) 0 (rawInt slot') >>= _) _ _ s
    refine wpAny_bind (wpAny_setField_rec hoi (by simp) fun h1 e1 k1 => ?_)
    show wpAny _ _ (setField (.ref I) 1 (rawInt ((i : Int) + 1)) >>= _) _ _ _
    refine wpAny_bind (wpAny_setField_rec (s := { s with heap := h1 }) e1 (by simp) fun h2 e2 k2 => ?_)
    exact wpAny_pure (⟨_, rfl, wpAny_pure (hQ' h2 ⟨slot', by simpa [rawInt] using e2, hs'⟩ ((k1.trans k2).extBut))⟩)
  · have hn : (walkO w a ep es)[i]? = none := by rw [Array.getElem?_eq_none]; rw [walk_size]; exact ar4 hlt
    have hin : i = es.size := by exact ar359 hi hlt
    have hE' := hE hin
    rw [hn]
    show wpAny _ _ (setField (.ref I) 2 .none >>= _) _ _ s
    refine wpAny_bind (wpAny_setField hoi rfl (by simp) ?_)
    show wpAny _ _ (newExc (.type "StopIteration") [] >>= _) _ _ _
    refine wpAny_bind ?_
    simp only [newExc, newTuple]
    refine wpAny_bind (wpAny_newObj_type ?_ (by size_fits))
    refine wpAny_bind (m := firstArgMember _ _) (wpAny_of_eq (a := Value.none) (by first | rfl | (simp only [firstArgMember]; rfl)) ?_)
    refine wpAny_newObj_type ?_ (by size_fits)
    simp only [raiseNew]
    refine wpAny_bind (wpAny_handled ?_)
    rw [show A.in1.handled = none from hh]
    refine wpAny_bind (wpAny_pure (wpAny_throw ?_))
    refine wpAny_bind (wpAny_isInstance (T := "StopIteration") (b := true) ⟨_, Heap.get?_push_size _ rfl, rfl⟩ isSubtype_stop ?_)
    exact wpAny_pure (hE' _ (((Heap.SameBut.update ..).extBut.push _).push _))
theorem set_hint {Q : Bool → Shared → Prop} (hT : s.TypeIs (.ref a) "set") (h : Q false s) : wpAny (model prog w) A (Builtin.List.listLengthHint (.ref a)) Q E s := by
  unfold Builtin.List.listLengthHint
  refine wpAny_bind (wpAny_specialOf hT SF.len_set ?_)
  generalize hid : ("set.__len__" : String) = id0
  wp_delta
  rw [show splitId id0 = some ("set", "__len__") from by subst hid; decide +kernel]
  subst hid
  refine wpAny_bind (wpAny_isInstance (T := "set") (b := true) hT (by rw [isSubtype_type]; kernel_rfl) ?_)
  refine wpAny_ite_split (fun hab => absurd hab (by decide)) (fun _ => ?_)
  refine wpAny_ite_split (fun _ => ?_) (fun hab => absurd (by decide +kernel) hab)
  refine wpAny_bind (wpAny_typeOf hT ?_)
  exact wpAny_pure h
theorem set_iter_self {I : Addr} {i : Nat} {Q : Value → Shared → Prop} (hit : SetIt w s.heap I a i es.size ep t) (h : Q (.ref I) s) : wpAny (model prog w) A (pyIter (.ref I)) Q E s := by
  obtain ⟨slot, hoi, _⟩ := id hit
  have hT : s.TypeIs (.ref I) "set_iterator" := ⟨_, hoi, rfl⟩
  refine wpAny_pyIter_slot hT SF.slot_iter (wpAny_call_entry SF.slot_iter hT SF.entry_iter ?_ (SF.args_iter _))
  show wpAny _ _ (ret (.ref I)) _ _ s
  exact wpAny_pure ⟨_, rfl, "set_iterator", _, hT, SF.slot_next.lookup, h⟩
theorem setWalks (hh : A.handled = none) (I : Addr) (hne : a ≠ I) (hd : o.data = .set es ep t) (hf : t.fits es.size = true) (hp : t.plain = true) (hl : t.led = ledOf w) (hb : ∀ i, i ≤ es.size → SetTable.below t.place (slotOf t i) = i) :
    Walks prog w A I [I, a] [I] es.size (fun i v => ((walkO w a ep es).toList.map (·.2))[i]? = some v) (fun i h => SetIt w h I a i es.size ep t ∧ h.get? a = some o) where
  sub := fun b hb => by simp at hb; simp [hb]
  frame := fun _ _ _ st hk => ⟨let ⟨sl, ho', r⟩ := st.1; ⟨sl, hk I (by simp) _ ho', r⟩, hk a (by simp) o st.2⟩
  item := fun i s Q E hi st hQ => by
    refine set_next hh st.2 hd hf hp hl hb st.1 (by exact ar360 hi) (fun x hx h' hit' he => ?_) (fun h => absurd h (by exact ar361 hi))
    have hsz : i < (walkO w a ep es).size := by rw [walk_size]; exact hi
    rw [Array.getElem?_eq_getElem hsz] at hx
    exact hQ _ h' s.toks (by rw [List.getElem?_map, Array.getElem?_toList, Array.getElem?_eq_getElem hsz, hx]; rfl) ⟨hit', he a o hne st.2⟩ fun b o hb e => he b o (fun h => hb (by simp [h])) e
  done := fun s Q E st hQ => by
    refine set_next hh st.2 hd hf hp hl hb st.1 (Nat.le_refl _) (fun x hx => ?_) (fun _ h' he => hQ h' s.toks fun b o hb e => he b o (fun h => hb (by simp [h])) e)
    rw [Array.getElem?_eq_none (by rw [walk_size]; exact Nat.le_refl _)] at hx; cases hx
  self := fun _ _ _ _ st hQ => set_iter_self st.1 hQ
theorem setSrc (hc : o.ExactSet) (hd : o.data = .set es ep t) (hf : t.fits es.size = true) (hp : t.plain = true) (hl : t.led = ledOf w) (hb : ∀ i, i ≤ es.size → SetTable.below t.place (slotOf t i) = i) :
    KdlSrc prog w "set" a a es.size (fun i v => ((walkO w a ep es).toList.map (·.2))[i]? = some v) (fun h => h.get? a = some o) where
  type := fun _ hm => ⟨o, hm, hc.1⟩
  there := fun _ hm => ⟨Heap.lt_size hm, Heap.lt_size hm⟩
  keep := fun _ _ hm hk => hk a (.inl rfl) o hm
  notList := by decide
  notTuple := by decide
  hint := fun _ _ _ _ hm hq => set_hint ⟨o, hm, hc.1⟩ hq
  iter := fun _ _ hh hm => ⟨_, _, (fun _ _ hq => set_iter_wp hm hc hd hf hp hq), setWalks hh _ (Nat.ne_of_lt (Heap.lt_size hm)) hd hf hp hl hb, ⟨⟨0, Heap.get?_push_size _ rfl, fun _ => rfl⟩, Heap.get?_push_of_some _ hm⟩⟩
end
section
variable {y : Sy} {n : Nat} {σ : St} {Q : V → St → Prop}
noncomputable def valI : Value → Int
  | .int v _ => v
  | _ => 0
theorem ints_val : ∀ {l : List Value}, (∀ v ∈ l, ∃ i tk, v = .int i tk) → IntsAre l (l.map valI)
  | [], _ => .nil
  | v :: l, h => by
    obtain ⟨i, tk, rfl⟩ := h v (.head _)
    exact .cons _ _ (ints_val fun u hu => h u (.tail _ hu))
theorem perm_cover : ∀ {sq l : List Int}, sq.Nodup → (∀ v ∈ sq, v ∈ l) → l.length = sq.length → l.Perm sq
  | [], l, _, _, e => by rw [List.length_eq_zero_iff.mp e]
  | v :: sq, l, hn, h, e => by
    obtain ⟨h1, h2⟩ := List.nodup_cons.mp hn
    have hv := h v (.head _)
    refine (List.perm_cons_erase hv).trans (List.Perm.cons v (perm_cover h2 (fun w hw => ?_) ?_))
    · exact (List.mem_erase_of_ne (by rintro rfl; exact h1 hw)).mpr (h w (.tail _ hw))
    · rw [List.length_erase_of_mem hv, e]; rfl
theorem ints_out {h : Heap} {out : List Value} {ns : List Int} (r : IntsAre out ns) : RepL h out (intVs ns) := by
  induction r with
  | nil => exact .nil
  | cons i t _ ih => exact .cons (.int _ _) ih
theorem C_sortedSet {a : Addr} {sq : List Int} (e : σ a = some (iset y.w sq)) (hf : Few sq) (hn : sq.Nodup) (h : ∀ (b : Addr) (ns : List Int), σ b = none → ns.Perm sq → ns.Pairwise (· ≤ ·) → Q (.val (.ref b)) (σ.put b (.list (intVs ns)))) : CallV y n σ (.builtin "sorted") [.val (.ref a)] Q := fun A hA s vs I r E => by
  cases r with
  | cons r1 r2 =>
    cases r1; cases r2
    obtain ⟨o, ho, hS⟩ := I.obj _ _ e
    obtain ⟨es, ep, t, hc, hd, _, hel, hsz, hcov, hp, hl, hft, hb⟩ := hS.good hf hn
    have hs3 : sq.length ≤ 3 := by
      rcases hf with hf | hf
      · exact nodup_len (al := [-1, 0, 1]) hn fun v hv => by rcases hf v hv with rfl | rfl | rfl <;> simp
      · exact nodup_len (al := [1, 2, 3]) hn fun v hv => by rcases hf v hv with rfl | rfl | rfl <;> simp
    refine Calls.call_function_entry kind_sorted plain_sorted entry_sorted (args_sorted1 _) ?_
    unfold Builtin.«sorted»
    refine wpAny_bind (m := checkCount "sorted" 1 1 _) (wpAny_pure ?_)
    refine wpAny_bind (kdu_collect (setSrc hc hd hft hp hl hb) hA.hd ho (by rw [sizeLine_eq]; exact ar362 hsz hs3) fun h' tk acc hk hacc => ?_)
    have eacc : acc.toList = (walkO y.w a ep es).toList.map (·.2) := by
      apply List.ext_getElem?
      intro i
      by_cases hi : i < es.size
      · have hi' : i < acc.size := by rw [hacc.1]; exact hi
        have := hacc.2 i acc[i] (by simp [hi'])
        rw [this]; simp [hi']
      · rw [List.getElem?_eq_none (by rw [Array.length_toList, hacc.1]; exact ar4 hi), List.getElem?_eq_none (by rw [List.length_map, Array.length_toList, walk_size]; exact ar4 hi)]
    obtain ⟨I₁, K₁⟩ := grow I hk
    have al : acc.toList.length = sq.length := by rw [eacc, List.length_map, Array.length_toList, walk_size]; assumption
    have hI : IntsAre acc.toList (acc.toList.map valI) := ints_val fun v hv => by
      rw [eacc] at hv
      obtain ⟨x, hx, rfl⟩ := List.mem_map.mp hv
      obtain ⟨u, _, tk, rfl⟩ := hel x ((walk_perm y.w a ep es).mem_iff.mp hx)
      exact ⟨u, tk, rfl⟩
    have hper : (acc.toList.map valI).Perm sq := perm_cover hn (fun v hv => by
      obtain ⟨x, hx, _, tk, ex⟩ := hcov v hv
      rw [eacc, List.map_map]
      exact List.mem_map.mpr ⟨x, (walk_perm y.w a ep es).mem_iff.mpr hx, by show valI x.2 = v; rw [ex]; rfl⟩) (by rw [List.length_map, al])
    refine wpAny_bind (wpAny_newList ?_ (by rw [al, sizeLine_eq]; exact ar335 hs3))
    have hoL : (h'.push (seqObj "list" acc.toList.toArray 0)).get? h'.objs.size = some (seqObj "list" acc.toList.toArray 0) := Heap.get?_push_size _ rfl
    refine wpAny_bind (wpAny_holding (wpAny_call_entry slot_list_sort ⟨_, hoL, rfl⟩ entry_list_sort (list_sort_tree (s := sw s (h'.push (seqObj "list" acc.toList.toArray 0)) tk) hoL hI (by exact ar363 hs3 al) fun out ns' hI' hp' ho' => ⟨_, rfl, ?_⟩) (args_list_sort _)))
    refine wpAny_pure ⟨_, rfl, ?_⟩
    have hlt : ∀ b o, h'.get? b = some o → b ≠ h'.objs.size := fun b o e => Nat.ne_of_lt (Heap.lt_size e)
    have old : ∀ b o, h'.get? b = some o → (sortedHeap (h'.push (seqObj "list" acc.toList.toArray 0)) h'.objs.size acc.toList out).get? b = some o := fun b o e => by
      rw [sortedHeap_old (hlt b o e) (by rw [Heap.size_push]; exact Nat.lt_succ_of_lt (Heap.lt_size e))]
      exact Heap.get?_push_of_some _ e
    obtain ⟨c, hc'⟩ := sortedHeap_at (out := out) hoL
    obtain ⟨I₂, K₂, fr⟩ := pushAs (x := .list (intVs ns')) I₁ old hc' fun k => ⟨out.toList, c, by rw [Array.toArray_toList], ints_out hI'⟩
    exact ⟨_, _, _, rfl, I₂, K₁.trans0 K₂, _, .val _, h _ ns' fr (hp'.trans hper) ho'⟩
end
end Mine
end
section
open PySem PySem.W PySem.Calls PyProof.Rows
set_option maxRecDepth 100000
set_option linter.unusedVariables false
namespace Mine
noncomputable def InD (m : Nat) (S : SS) (p : List Int) : Prop := ∀ x, x < m + 2 → p.getD x 0 ∈ valsD (dS S x)
section
variable {m : Nat} {S S' : SS} {P : List (List Int)} {p : List Int}
theorem now_getD (O : OKS m S) {x : Nat} (hx : x < m + 2) : (nowL S).getD x [] = valsD (dS S x) := by
  have h : x < S.doms.length := by rw [O.ld]; exact hx
  simp [nowL, dS, h]
theorem now_len (O : OKS m S) : (nowL S).length = m + 2 := by simp [nowL, O.ld]
theorem in_lt {l : Lit} (h : inR m l) : l.1.toNat < m + 2 := by have := h.1; have := h.2; exact ar422 this
theorem hold_of (O : OKS m S) {r : List Lit} (hr : ∀ q ∈ r, inR m q) (hh : ∀ q ∈ r, Holds S q) : holdB (nowL S) r = true := by
  unfold holdB
  rw [List.all_eq_true]
  intro l hl
  rw [now_getD O (in_lt (hr l hl)), List.all_eq_true]
  exact hh l hl
theorem keep_of {r : List Lit} {l : Lit} (h : ∀ p ∈ P, (∀ q ∈ r, litSat q p = true) → litSat l p = true) : keepL P r = keepL P (r ++ [l]) := by
  unfold keepL
  refine List.filter_congr fun p hp => ?_
  rw [List.all_append]
  cases e : r.all fun l => litSat l p with
  | false => rfl
  | true =>
    have := h p hp (List.all_eq_true.mp e)
    simp [this]
theorem sat_meets {x : Int} {s : Sg} {j v : Int} : satB (x, s, j) v = meetsB s j v := rfl
theorem neg_sat {l : Lit} {v : Int} : satB (neg l) v = !satB l v := by
  obtain ⟨x, s, k⟩ := l
  cases s
  · show decide (v ≥ k + 1) = !decide (v ≤ k)
    by_cases h : v ≤ k
    · simp [h]; exact ar423 h
    · simp [h]; exact ar424 h
  · show decide (v ≤ k - 1) = !decide (v ≥ k)
    by_cases h : v ≥ k
    · simp [h]; exact ar425 h
    · simp [h]; exact ar426 h
  · show (v != k) = !(v == k); rfl
  · show (v == k) = !(v != k); simp [bne]
theorem neg_fst (l : Lit) : (neg l).1 = l.1 := by obtain ⟨x, s, k⟩ := l; cases s <;> rfl
theorem holds_sat {r : List Lit} (hin : InD m S p) (hr : ∀ q ∈ r, inR m q) (hh : ∀ q ∈ r, Holds S q) : ∀ q ∈ r, litSat q p = true := fun q hq => hh q hq _ (hin _ (in_lt (hr q hq)))
theorem Chain.snoc {L L' : List (List Int)} {u : List TE} (c : Chain m P L u L') {old : Dom} {x : Nat} {s : Sg} {k : Int} {r : List Lit} (hx : x < m + 2) (hr : ∀ l ∈ r, inR m l) (hrl : r.length ≤ 900) (ho : Small old) (hv : valsD old = L'.getD x []) (hh : holdB L' r = true)
    (hk : keepL P r = keepL P (r ++ [((x : Int), s, k)])) (h1 : (L'.getD x []).filter (satB ((x : Int), s, k)) ≠ []) (h2 : (L'.getD x []).filter (satB ((x : Int), s, k)) ≠ L'.getD x []) :
    Chain m P L (u ++ [⟨old, ((x : Int), s, k), some r⟩]) (L'.set x ((L'.getD x []).filter (satB ((x : Int), s, k)))) := by
  induction c with
  | nil => exact .cons hx hr hrl ho hv hh hk h1 h2 .nil
  | cons a1 a2 a3 a4 a5 a6 a7 a8 a9 _ ih => exact .cons a1 a2 a3 a4 a5 a6 a7 a8 a9 (ih hv hh h1 h2)
theorem Step.chain (st : Step m S S') (O : OKS m S) (hP : ∀ p ∈ P, AnsF m S.firsts p) {L : List (List Int)} {u : List TE} (c : Chain m P L u (nowL S)) : ∃ t, S'.trail = S.trail ++ [t] ∧ Chain m P L (u ++ [t]) (nowL S') := by
  cases st with
  | @mk x s j r fresh hx so hc hne hv hlt h1 h2 hr =>
    have e : (nowL S).getD x [] = valsD (dS S x) := now_getD O hx
    have ef : (valsD (dS S x)).filter (satB ((x : Int), s, j)) = (valsD (dS S x)).filter (meetsB s j) := rfl
    refine ⟨_, rfl, ?_⟩
    have := c.snoc (old := dS S x) hx so.rng.2 hr (O.cd hx).1.small e.symm (hold_of O so.rng.2 so.holds) (keep_of fun p hp hs => so.force p (hP p hp) hs) (s := s) (k := j) (by
      rw [e, ef]
      obtain ⟨v, hv, h⟩ := h1
      intro q
      have := List.filter_eq_nil_iff.mp q v hv
      exact this h) (by
      rw [e, ef]
      obtain ⟨v, hv, h⟩ := h2
      intro q
      have := List.filter_eq_self.mp q v hv
      rw [h] at this; cases this)
    have en : (nowL S).set x (((nowL S).getD x []).filter (satB ((x : Int), s, j))) = nowL { S with doms := S.doms.set x fresh, trail := S.trail ++ [⟨dS S x, (x, s, j), some r⟩], news := S.news + 1 } := by
      rw [e, ef, ← hv]
      show _ = (S.doms.set x fresh).map valsD
      rw [List.map_set]; rfl
    rw [en] at this
    exact this
theorem Path.chain (p : Path m S S') (O : OKS m S) (hP : ∀ p ∈ P, AnsF m S.firsts p) : ∃ u, S'.trail = S.trail ++ u ∧ Chain m P (nowL S) u (nowL S') := by
  induction p with
  | refl => exact ⟨[], by simp, .nil⟩
  | step p s ih =>
    obtain ⟨u, e, c⟩ := ih
    obtain ⟨O₁, ef, _⟩ := p.ok O
    obtain ⟨t, e', c'⟩ := s.chain O₁ (fun p hp => by rw [ef]; exact hP p hp) c
    exact ⟨u ++ [t], by rw [e', e, List.append_assoc], c'⟩
theorem Step.live (st : Step m S S') (O : OKS m S) (ha : AnsF m S.firsts p) (hi : InD m S p) : InD m S' p := by
  cases st with
  | @mk x s j r fresh hx so hc hne hv hlt h1 h2 hr =>
    intro z hz
    rw [dS_set O hx]
    split
    · rename_i e
      subst e
      rw [hv]
      exact List.mem_filter.mpr ⟨hi z hz, so.force p ha (holds_sat hi so.rng.2 so.holds)⟩
    · exact hi z hz
theorem Path.live (q : Path m S S') (O : OKS m S) (ha : AnsF m S.firsts p) (hi : InD m S p) : InD m S' p := by
  induction q with
  | refl => exact hi
  | step q s ih =>
    obtain ⟨O₁, ef, _⟩ := q.ok O
    exact s.live O₁ (by rw [ef]; exact ha) ih
theorem Path.dead (q : Path m S S') (O : OKS m S) (hi : InD m S' p) : InD m S p := fun x hx => q.sub O x _ (hi x hx)
theorem FailS.none (f : FailS m S S') (O : OKS m S) (ha : AnsF m S.firsts p) : ¬ InD m S p := fun hi => by
  obtain ⟨x, s, j, r, hx, so, hv, _, _⟩ := f
  have h1 := so.force p ha (holds_sat hi so.rng.2 so.holds)
  have h2 := hv _ (hi x hx)
  have h1 : meetsB s j (p.getD x 0) = true := h1
  rw [h2] at h1; cases h1
theorem FailS.tells (f : FailS m S S') (O : OKS m S) (hP : ∀ p ∈ P, AnsF m S.firsts p) : S'.clash.length ≤ 901 ∧ (∀ q ∈ S'.clash, inR m q) ∧ holdB (nowL S') S'.clash = true ∧ keepL P S'.clash = [] := by
  obtain ⟨x, s, j, r, hx, so, hv, hr, rfl⟩ := f
  have hin : ∀ q ∈ r ++ [neg ((x : Int), s, j)], inR m q := fun q hq => by
    rcases List.mem_append.mp hq with hq | hq
    · exact so.rng.2 q hq
    · rw [List.mem_singleton] at hq
      subst hq
      unfold inR
      rw [neg_fst]; exact so.rng.1
  refine ⟨by show (r ++ [_]).length ≤ 901; simp; assumption, hin, ?_, ?_⟩
  · refine hold_of (S := S) O hin fun q hq => ?_
    rcases List.mem_append.mp hq with hq | hq
    · exact so.holds q hq
    · rw [List.mem_singleton] at hq
      subst hq
      intro v hv'
      rw [neg_fst] at hv'
      rw [neg_sat, sat_meets, hv v hv']; rfl
  · show keepL P (r ++ [neg ((x : Int), s, j)]) = []
    unfold keepL
    rw [List.filter_eq_nil_iff]
    intro p hp hs
    rw [List.all_append, Bool.and_eq_true] at hs
    have h1 := so.force p (hP p hp) (List.all_eq_true.mp hs.1)
    have h2 := List.all_eq_true.mp hs.2 (neg ((x : Int), s, j)) (by simp)
    unfold litSat at h1 h2
    rw [neg_fst, neg_sat, h1] at h2
    cases h2

noncomputable def mkP (m : Nat) (f : Nat → Int) : List Int := (List.range (m + 2)).map f
theorem mkP_getD {f : Nat → Int} {x : Nat} (hx : x < m + 2) : (mkP m f).getD x 0 = f x := by simp [mkP, hx]
theorem mkP_ok (O : OKS m S) {f : Nat → Int} {i : Nat} (hf : ∀ x, x < m + 2 → f x ∈ valsD (dS S x)) (h1 : 1 ≤ i) (h2 : i ≤ m) (h0 : f 0 = i) (h3 : f i = f (m + 1)) : AnsF m S.firsts (mkP m f) ∧ InD m S (mkP m f) := by
  have hl : (mkP m f).length = m + 2 := by simp [mkP]
  refine ⟨⟨hl, fun x hx => ?_, ans_of hl h1 h2 (by rw [mkP_getD (by exact ar65)]; exact h0) (by rw [mkP_getD (by exact ar66 h2), mkP_getD (by exact Nat.le_refl _)]; exact h3)⟩, fun x hx => ?_⟩
  · rw [mkP_getD hx]; exact O.sub x hx _ (hf x hx)
  · rw [mkP_getD hx]; exact hf x hx
theorem meet_some (O : OKS m S) {i j : Nat} (hi : i < m + 2) (hj : j < m + 2) (h : meetD (dS S i) (dS S j) ≠ []) : ∃ w, w ∈ valsD (dS S i) ∧ w ∈ valsD (dS S j) := by
  apply Classical.byContradiction
  intro q
  exact h (((O.cd hi).1.meet (O.cd hj).1).mpr fun v hv hv' => q ⟨v, hv, hv'⟩)
theorem vals_ne (O : OKS m S) {x : Nat} (hx : x < m + 2) : valsD (dS S x) ≠ [] := fun q => (O.cd hx).2 ((O.cd hx).1.nil.mpr q)
theorem sup (O : OKS m S) {i : Nat} {w : Int} {g : Nat → Int} (h1 : 1 ≤ i) (h2 : i ≤ m) (h0 : (i : Int) ∈ valsD (dS S 0)) (hw : w ∈ valsD (dS S i)) (hw' : w ∈ valsD (dS S (m + 1))) (hg : ∀ x, x < m + 2 → g x ∈ valsD (dS S x)) :
    AnsF m S.firsts (mkP m fun z => if z = 0 then (i : Int) else if z = i ∨ z = m + 1 then w else g z) ∧ InD m S (mkP m fun z => if z = 0 then (i : Int) else if z = i ∨ z = m + 1 then w else g z) := by
  refine mkP_ok O (i := i) (fun x hx => ?_) h1 h2 (by simp) ?_
  · split
    · rename_i e; subst e; exact h0
    · split
      · rename_i e
        rcases e with rfl | rfl
        · exact hw
        · exact hw'
      · exact hg x hx
  · rw [if_neg (by exact ar428 h1), if_pos (.inl rfl), if_neg (by exact ar241), if_pos (.inr rfl)]
theorem full (O : OKS m S) (C : ConsC m S) {x : Nat} (hx : x < m + 2) {v : Int} (hv : v ∈ valsD (dS S x)) : ∃ p, AnsF m S.firsts p ∧ InD m S p ∧ p.getD x 0 = v := by
  have hm := O.hm
  have hg : ∀ x, x < m + 2 → (valsD (dS S x)).headD 0 ∈ valsD (dS S x) := fun x hx => by
    have := vals_ne O hx
    cases e : valsD (dS S x) with
    | nil => exact absurd e this
    | cons a l => simp
  by_cases e0 : x = 0
  · subst e0
    obtain ⟨i, rfl, i1, i2, hmt⟩ := C.places v hv
    obtain ⟨w, hw, hw'⟩ := meet_some O (by exact ar66 i2) (by exact Nat.le_refl _) hmt
    have := sup O i1 i2 hv hw hw' hg
    exact ⟨_, this.1, this.2, by rw [mkP_getD hx]; simp⟩
  by_cases e1 : x = m + 1
  · subst e1
    obtain ⟨i, h0, i1, i2, hi⟩ := C.values v hv
    have := sup O i1 i2 h0 hi hv hg
    exact ⟨_, this.1, this.2, by rw [mkP_getD hx]; simp⟩
  by_cases e2 : valsD (dS S 0) = [(x : Int)]
  · have := sup O (i := x) (w := v) (by exact ar429 e0) (by exact ar430 hx e1) (by rw [e2]; simp) hv (C.cell x e2 v hv) hg
    exact ⟨_, this.1, this.2, by rw [mkP_getD hx]; simp [e0]⟩
  · have : ∃ u ∈ valsD (dS S 0), u ≠ (x : Int) := by
      apply Classical.byContradiction
      intro q
      exact e2 (only_one (O.cd (by exact ar65)).1 (O.cd (by exact ar65)).2 fun u hu => Classical.byContradiction fun n => q ⟨u, hu, n⟩)
    obtain ⟨u, hu, hux⟩ := this
    obtain ⟨i, rfl, i1, i2, hmt⟩ := C.places u hu
    obtain ⟨w, hw, hw'⟩ := meet_some O (by exact ar66 i2) (by exact Nat.le_refl _) hmt
    have := sup O (g := fun z => if z = x then v else (valsD (dS S z)).headD 0) i1 i2 hu hw hw' (fun z hz => by
      split
      · rename_i e; subst e; exact hv
      · exact hg z hz)
    refine ⟨_, this.1, this.2, ?_⟩
    rw [mkP_getD hx]
    have : ¬ (x = i ∨ x = m + 1) := by
      rintro (h | h)
      · exact hux (by rw [h])
      · exact e1 h
    simp [e0, this]
theorem Path.stays (q : Path m S S') (O : OKS m S) (C : ConsC m S) : S' = S := by
  induction q with
  | refl => rfl
  | step q s ih =>
    subst ih
    cases s with
    | @mk x s j r fresh hx so hc hne hv hlt h1 h2 hr =>
      obtain ⟨v, hv', hf⟩ := h2
      obtain ⟨p, ha, hi, e⟩ := full O C hx hv'
      have := so.force p ha (holds_sat hi so.rng.2 so.holds)
      have h : meetsB s j (p.getD x 0) = true := this
      rw [e, hf] at h; cases h
theorem Res.stays {b : Bool} (q : Res m S S' b) (O : OKS m S) (C : ConsC m S) : b = true ∧ S' = S := by
  cases b with
  | true => exact ⟨rfl, Path.stays q O C⟩
  | false =>
    obtain ⟨S₁, p, f⟩ := q
    have := p.stays O C
    subst this
    obtain ⟨v, l, e⟩ := List.exists_cons_of_ne_nil (vals_ne O (x := 0) (by exact ar65))
    obtain ⟨p, ha, hi, _⟩ := full O C (x := 0) (v := v) (by exact ar65) (by rw [e]; simp)
    exact absurd hi (f.none O ha)

noncomputable def dueL (P lots : List (List Int)) : List (List Int) := P.filter fun p => (List.range lots.length).all fun x => (lots.getD x []).contains (p.getD x 0)
theorem due_mem (O : OKS m S) : p ∈ dueL P (nowL S) ↔ p ∈ P ∧ InD m S p := by
  unfold dueL
  rw [List.mem_filter, List.all_eq_true, now_len O]
  refine and_congr_right fun _ => ⟨fun h x hx => ?_, fun h x hx => ?_⟩
  · have := h x (List.mem_range.mpr hx)
    rw [now_getD O hx] at this
    simpa using this
  · have hx := List.mem_range.mp hx
    rw [now_getD O hx]
    simpa using h x hx
theorem due_same (q : Path m S S') (O : OKS m S) (hP : ∀ p ∈ P, AnsF m S.firsts p) : dueL P (nowL S') = dueL P (nowL S) := by
  have O' := (q.ok O).1
  have key : ∀ p ∈ P, (p ∈ dueL P (nowL S') ↔ p ∈ dueL P (nowL S)) := fun p hp => by
    rw [due_mem O, due_mem O']
    exact and_congr_right fun _ => ⟨q.dead O, q.live O (hP p hp)⟩
  unfold dueL at key ⊢
  refine List.filter_congr fun p hp => ?_
  have := key p hp
  rw [List.mem_filter, List.mem_filter] at this
  have := (and_congr_right_iff.mp this) hp
  rw [Bool.eq_iff_iff]; exact this
theorem Res.due {b : Bool} (q : Res m S S' b) (O : OKS m S) (hP : ∀ p, p ∈ P ↔ AnsF m S.firsts p) (hC : b = true → ConsC m S') : b = decide (dueL P (nowL S) ≠ []) := by
  cases b with
  | true =>
    have q : Path m S S' := q
    obtain ⟨O', ef, _⟩ := q.ok O
    obtain ⟨v, l, e⟩ := List.exists_cons_of_ne_nil (vals_ne O' (x := 0) (by exact ar65))
    obtain ⟨p, ha, hi, _⟩ := full O' (hC rfl) (x := 0) (v := v) (by exact ar65) (by rw [e]; simp)
    rw [ef] at ha
    have : p ∈ dueL P (nowL S) := (due_mem O).mpr ⟨(hP p).mpr ha, q.dead O hi⟩
    rw [decide_eq_true]
    intro h; rw [h] at this; cases this
  | false =>
    obtain ⟨S₁, p, f⟩ := q
    obtain ⟨O₁, ef, _⟩ := p.ok O
    rw [decide_eq_false]
    intro h
    apply h
    rw [List.eq_nil_iff_forall_not_mem]
    intro z hz
    obtain ⟨h1, h2⟩ := (due_mem O).mp hz
    have ha := (hP z).mp h1
    exact f.none O₁ (by rw [ef]; exact ha) (p.live O ha h2)
theorem sorted_uniq : ∀ {a b : List Int}, a.Pairwise (· < ·) → b.Pairwise (· ≤ ·) → b.Nodup → (∀ v, v ∈ a ↔ v ∈ b) → a = b
  | [], [], _, _, _, _ => rfl
  | [], v :: b, _, _, _, h => absurd ((h v).mpr (.head _)) (by simp)
  | v :: a, [], _, _, _, h => absurd ((h v).mp (.head _)) (by simp)
  | v :: a, u :: b, ha, hb, hn, h => by
    obtain ⟨ha1, ha2⟩ := List.pairwise_cons.mp ha
    obtain ⟨hb1, hb2⟩ := List.pairwise_cons.mp hb
    obtain ⟨hn1, hn2⟩ := List.nodup_cons.mp hn
    have e : v = u := by
      have h1 : u ≤ v := by
        rcases List.mem_cons.mp ((h v).mp (.head _)) with e | e
        · exact ar431 e
        · exact hb1 v e
      have h2 : v ≤ u := by
        rcases List.mem_cons.mp ((h u).mpr (.head _)) with e | e
        · exact ar431 e
        · have := ha1 u e; exact ar432 this
      exact ar433 h1 h2
    subst e
    rw [sorted_uniq ha2 hb2 hn2 fun w => ?_]
    constructor
    · intro hw
      rcases List.mem_cons.mp ((h w).mp (.tail _ hw)) with e | e
      · subst e; have := ha1 w hw; exact ar434 this
      · exact e
    · intro hw
      rcases List.mem_cons.mp ((h w).mpr (.tail _ hw)) with e | e
      · subst e; exact absurd hw hn1
      · exact e
theorem due_vals (O : OKS m S) (C : ConsC m S) (hP : ∀ p, p ∈ P ↔ AnsF m S.firsts p) {x : Nat} (hx : x < m + 2) {ns : List Int} (h1 : ns.Perm (metL ((dueL P (nowL S)).map fun p => p.getD x 0))) (h2 : ns.Pairwise (· ≤ ·)) : (nowL S).getD x [] = ns := by
  rw [now_getD O hx]
  refine sorted_uniq (O.cd hx).1.sorted h2 (h1.symm.nodup (met_nodup _ _ (by simp))) fun v => ?_
  rw [h1.mem_iff]
  unfold metL
  rw [met_mem]
  simp only [List.not_mem_nil, false_or, List.mem_map]
  constructor
  · intro hv
    obtain ⟨p, ha, hi, e⟩ := full O C hx hv
    exact ⟨p, (due_mem O).mpr ⟨(hP p).mpr ha, hi⟩, e⟩
  · rintro ⟨p, hp, rfl⟩
    exact ((due_mem O).mp hp).2 x hx
theorem due_few (O : OKS m S) (hP : ∀ p, p ∈ P ↔ AnsF m S.firsts p) (hF : ∀ x, 1 ≤ x → x < m + 2 → ∀ v ∈ valsD (fS S x), v = -1 ∨ v = 0 ∨ v = 1) {x : Nat} (hx : x < m + 2) : Few ((dueL P (nowL S)).map fun p => p.getD x 0) := by
  have hm := O.hm
  by_cases h0 : x = 0
  · subst h0
    refine .inr fun v hv => ?_
    obtain ⟨p, hp, rfl⟩ := List.mem_map.mp hv
    obtain ⟨i, i1, i2, e, _⟩ := ans_spec ((hP p).mp ((due_mem O).mp hp).1)
    rw [e]; exact ar435 hm i1 i2
  · refine .inl fun v hv => ?_
    obtain ⟨p, hp, rfl⟩ := List.mem_map.mp hv
    exact hF x (by exact ar429 h0) hx _ (((hP p).mp ((due_mem O).mp hp).1).2.1 x hx)
end
end Mine
end
section
open PySem PySem.W PySem.Calls PyProof.Rows
set_option maxRecDepth 100000
set_option linter.unusedVariables false
namespace Mine
theorem SA.leB {σ σ' : St} {a b : Addr} {c : SC} {S : SS} (A : SA σ a c S) (hb : b ∉ own a c) (l : St.LeB b σ σ') : SA σ' a c S := by
  simp only [own, List.mem_cons, List.not_mem_nil, or_false, not_or] at hb
  obtain ⟨b1, b2, b3, b4, b5, b6, b7⟩ := hb
  exact ⟨l _ _ (Ne.symm b1) A.inst, l _ _ (Ne.symm b2) A.att, l _ _ (Ne.symm b3) A.dm, l _ _ (Ne.symm b4) A.fs, l _ _ (Ne.symm b5) A.tr, l _ _ (Ne.symm b6) A.ms, l _ _ (Ne.symm b7) A.nw, A.nodup⟩
theorem Fr.leB {σ σ₁ σ' : St} {a b : Addr} {c : SC} (f : Fr a c σ c σ₁) (hb : σ b = none) (l : St.LeB b σ₁ σ') : Fr a c σ c σ' := fun q z n e => by
  obtain ⟨h1, h2⟩ := f q z n e
  exact ⟨l q z (by rintro rfl; rw [hb] at e; cases e) h1, h2⟩
theorem natVs_int (l : List Nat) : natVs l = intVs (l.map fun (i : Nat) => (i : Int)) := by simp [natVs, intVs]
section
variable {y : Sy} {n : Nat} {σ : St} {Q : V → St → Prop} {env : Env} {W : Str → Prop} {ρ : Env1} {a b e d q : Addr} {c : SC} {S : SS} {m : Nat}
theorem rng_m {σ' : St} (hm : m ≤ 50) : IterOf y σ' (.rng 0 ((m + 2 : Nat) : Int) 1) (natVs (List.range (m + 2))) := by
  rw [← steps01]
  exact rng_iter (k := m + 2) (by exact ar203 hm)
set_option maxHeartbeats 1600000 in
theorem law_asked_right_ok (H : Says y.B) (A : SA σ a c S) (Ee : EA' σ e d m a c) (O : OKS m S) (hfl : S.failed = false) (hF : ∀ x, 1 ≤ x → x < m + 2 → ∀ v ∈ valsD (fS S x), v = -1 ∨ v = 0 ∨ v = 1) {P : List (List Int)} (hP : ∀ p, p ∈ P ↔ AnsF m S.firsts p)
    (hp : σ q = some (.list (ptVs P))) (hpo : q ∉ own a c) (hPz : P.length ≤ 100000) (h : ∀ σ' S' b, Done m σ a c S σ' S' b → Q (.val (.bool true)) σ') : CallK y (n + 8) σ (.ref 458) [.val (.ref a), .val (.ref e), .val (.ref q)] Q := by
  refine K_fn (F_law_asked_right H) (by kernel_rfl) rfl fun env he => ?_
  have hm := O.hm
  have hw := O.w
  have hpl : ∀ p ∈ P, p.length = m + 2 := fun p hp => ((hP p).mp hp).1
  have hP' : ∀ p ∈ P, AnsF m S.firsts p := fun p hp => (hP p).mp hp
  refine XS_cons (X_assign (E_tuple (E_fcall he (globFact H (k := 23) (by rfl) (by rfl)) (F_law_now H).keeps (E_var he (u := .val (.ref a)) rfl ?_))) (hw := by rw [swapped_env (env' := envS _) he]; rfl))
  refine CallK.v (law_now_ok H A O fun b σ₁ hb l₁ hL₁ _ => ?_)
  have A₁ := A.le l₁
  refine E_fcall he (bltFact H (k := 5) (by rfl) (by rfl)) (keeps_builtin _ _) (E_sattr H (u := .val (.ref c.tr)) (E_var he (u := .val (.ref a)) rfl ⟨rfl, A₁, C_len_list (.of A₁.tr) (by simp; exact ar204 hw) ⟨by simp, T_tup (xs := [.val (.ref b), .int ((S.trail.map TE.v).length : Int)]) (T_var he (T_var he ?_))⟩⟩) rfl)
  have etl : ((S.trail.map TE.v).length : Int) = ((S.trail.length : Nat) : Int) := by simp
  rw [etl]
  have hbl := hL₁.ll
  have hll := now_len O
  have hb3 : ∀ l ∈ nowL S, l.length ≤ 1000 := fun l hl => by
    obtain ⟨i, hi⟩ := List.mem_iff_getElem?.mp hl
    have hi' : i < m + 2 := by
      rcases Nat.lt_or_ge i (nowL S).length with z | z
      · exact ar205 hll z
      · rw [List.getElem?_eq_none z] at hi; cases hi
    have := dS_vals_le O hi'
    rw [← now_getD O hi'] at this
    have e : (nowL S).getD i [] = l := by simp [hi]
    rw [e] at this; exact ar206 this
  -- due
  refine XS_cons (X_assign (E_comp1 (sck he) (E_var he (u := .val (.ref q)) rfl ⟨ptVs P, fun cenv hc => ?_⟩)) (by rw [swaps_env (env' := envS _) he]; rfl))
  have hc := relabel_S he hc
  refine CL_pure (src := .val (.ref q)) (all := ptVs P) (σ₀ := σ₁) (p := onV ptv fun p => (List.range (nowL S).length).all fun x => ((nowL S).getD x []).contains (p.getD x 0)) (F := fun x v _ => v = x) (fun ρ => ρ "lots" = some (.val (.ref b))) (fun x ρ => ρ "point" = some x) (fun σ' l => .of (l _ _ (l₁ _ _ hp))) (fun x v σ' σ'' h _ => h) _ ?_ ?_ ?_ [] _ σ₁ (by rfl) (.refl _) (by simp [ptVs]; exact ar139 hPz) ?_
  · intro x hx ρ σ' R hJ hl hR
    exact T_var hc (hR _ (by rw [upd_ne (by decide)]; exact hJ) (upd_self ..)) (fun h => h)
  · intro x hxm ρ σ' B hJ hG hl hB
    obtain ⟨p, hpm, rfl⟩ := List.mem_map.mp hxm
    have hpl := hpl p hpm
    rw [onV_eq (fun a b => ptv_inj)] at hB
    refine B_compare (E_comp1 (sck hc) (E_fcall hc (bltFact H (k := 3) (by rfl) (by rfl)) (keeps_type _ _) (E_fcall hc (bltFact H (k := 5) (by rfl) (by rfl)) (keeps_builtin _ _) (E_var hc (u := .val (.ref b)) hJ ?_))))
    obtain ⟨as, k1, k2, k3⟩ := (hbl.le hl).at'
    refine C_len_list (.of k1) (by simp; exact ar207 hm hll k2) (C_range1 ?_)
    rw [show (((as.map fun a => V.val (.ref a)).length : Nat) : Int) = ((m + 2 : Nat) : Int) from by simp [k2, hll]]
    refine ⟨natVs (List.range (m + 2)), fun cenv₂ hc₂ => ?_⟩
    have hc₂ := relabel_S hc hc₂
    refine CL_pure (src := .rng 0 ((m + 2 : Nat) : Int) 1) (all := natVs (List.range (m + 2))) (σ₀ := σ') (p := onV (fun i : Nat => V.int (i : Int)) fun x => !((nowL S).getD x []).contains (p.getD x 0)) (F := fun x v _ => v = x) (fun ρ => ρ "point" = some (ptv p) ∧ ρ "lots" = some (.val (.ref b))) (fun x ρ => ρ "x" = some x) (fun σ'' l => rng_m (by exact ar76 hm)) (fun x v σ' σ'' h _ => h) _ ?_ ?_ ?_ [] _ σ' ⟨by show cRho _ _ _ = _; exact hG, by show cRho _ _ _ = _; exact hJ⟩ (.refl _) (by simp [natVs]; exact ar159 hm) ?_
    · intro x hx ρ σ' R hJ hl hR
      exact T_var hc₂ (hR _ ⟨by rw [upd_ne (by decide)]; exact hJ.1, by rw [upd_ne (by decide)]; exact hJ.2⟩ (upd_self ..)) (fun h => by cases h)
    · intro x hxm ρ₂ σ₂ B₂ hJ₂ hG₂ hl₂ hB₂
      obtain ⟨i, hi, rfl⟩ := List.mem_map.mp hxm
      have hi := List.mem_range.mp hi
      rw [onV_eq (fun a b h => by injection h with h; exact ar208 h)] at hB₂
      obtain ⟨ai, hitem, hai⟩ := (hbl.le (hl.trans hl₂)).item (y := y) (i := i) (by exact ar141 hll hi) (by exact ar209 hm hll)
      refine B_compare (E_sub (E_var hc₂ (u := ptv p) hJ₂.1 (E_var hc₂ (u := .int (i : Int)) hG₂ ⟨_, item_pt (i := i) (by exact ar209 hm hpl) (by exact ar141 hpl hi), E_sub (E_var hc₂ (u := .val (.ref b)) hJ₂.2 (E_var hc₂ (u := .int (i : Int)) hG₂ ⟨_, hitem, ?_⟩))⟩)))
      refine O2_notIn (.of hai) (rdl_ints y σ₂ _) (.int _) (fun e he => ?_) rfl fun cc hcc => ⟨_, rfl, ?_⟩
      · obtain ⟨v, _, rfl⟩ := List.mem_map.mp he; rfl
      · have := hB₂ σ₂ (.refl _)
        have e : cc = !((nowL S).getD i []).contains (p.getD i 0) := by
          have hd : Dat.int (p.getD i 0) ∉ datI ((nowL S).getD i []) ↔ ¬ (p.getD i 0 ∈ (nowL S).getD i []) := by
            refine not_congr ?_
            unfold datI
            rw [List.mem_map]
            constructor
            · rintro ⟨v, hv, e⟩
              injection e with e
              rw [← e]; exact hv
            · intro hv; exact ⟨_, hv, rfl⟩
          rw [Bool.eq_iff_iff, hcc, hd]
          simp
        rw [← e] at this
        cases cc <;> exact this
    · intro x hxm ρ₂ σ₂ Q₂ hJ₂ hG₂ _ hl₂ hQ₂
      exact E_var hc₂ hG₂ (hQ₂ x σ₂ (.refl _) rfl)
    · intro vs ρ₂ σ₂ _ l₂ hlen hvs q2 hq2
      have ev := all_same (F := fun x v _ => v = x) (σ' := σ₂) (fun _ _ h => h) hlen hvs
      have ef : (natVs (List.range (m + 2))).filter (onV (fun i : Nat => V.int (i : Int)) fun x => !((nowL S).getD x []).contains (p.getD x 0)) = natVs ((List.range (m + 2)).filter fun x => !((nowL S).getD x []).contains (p.getD x 0)) := filter_vals fun a => onV_eq (fun a b h => by injection h with h; exact ar208 h) a
      rw [ef, natVs_int] at ev
      rw [List.nil_append, ev]
      generalize hns : (((List.range (m + 2)).filter fun x => !((nowL S).getD x []).contains (p.getD x 0)).map fun (i : Nat) => (i : Int)) = ns at ev ⊢
      have l₃ := l₂.trans (St.Le.put (x := .list (intVs ns)) hq2)
      have e₃ : (σ₂.put q2 (.list (intVs ns))) q2 = some (.list (intVs ns)) := St.put_self ..
      generalize σ₂.put q2 (.list (intVs ns)) = σ₃ at l₃ e₃ ⊢
      refine E_list ⟨by simp, fun q3 hq3 => ?_⟩
      have l₄ := St.Le.put (x := .list []) hq3
      refine O2_eqI (k := []) (l₄ _ _ e₃) (St.put_self ..) ⟨_, rfl, ?_⟩
      have eb : decide (ns = []) = (List.range (nowL S).length).all fun x => ((nowL S).getD x []).contains (p.getD x 0) := by
        rw [← hns, hll, Bool.eq_iff_iff, decide_eq_true_eq, List.map_eq_nil_iff, List.filter_eq_nil_iff, List.all_eq_true]
        simp
      rw [eb]
      have := hB _ (l₃.trans l₄)
      cases hs : ((List.range (nowL S).length).all fun x => ((nowL S).getD x []).contains (p.getD x 0)) <;> rw [hs] at this <;> exact this
  · intro x hxm ρ σ' Q hJ hG _ hl hQ
    exact E_var hc hG (hQ x σ' (.refl _) rfl)
  intro vs ρ' σ₂ _ l₂ hlen hvs dl hdl
  have ev := all_same (F := fun x v _ => v = x) (σ' := σ₂) (fun _ _ h => h) hlen hvs
  have ef : (ptVs P).filter (onV ptv fun p => (List.range (nowL S).length).all fun x => ((nowL S).getD x []).contains (p.getD x 0)) = ptVs (dueL P (nowL S)) := filter_vals fun a => onV_eq (fun a b => ptv_inj) a
  rw [ef] at ev
  rw [List.nil_append, ev]
  clear hvs hlen ev vs ef
  have hdue := fun (S' : SS) (b : Bool) (r : Res m S S' b) hC => r.due O hP hC
  have hdl0 : σ dl = none := (l₁.trans l₂).none hdl
  have l₂' := l₂.trans (St.Le.put (x := .list (ptVs (dueL P (nowL S)))) hdl)
  have e₂ : (σ₂.put dl (.list (ptVs (dueL P (nowL S))))) dl = some (.list (ptVs (dueL P (nowL S)))) := St.put_self ..
  generalize σ₂.put dl (.list (ptVs (dueL P (nowL S)))) = σ₃ at l₂' e₂ ⊢
  have l₃ := l₁.trans l₂'
  refine T_var he ?_
  have A₃ := A.le l₃
  have E₃ := Ee.le l₃
  -- the question
  refine XS_cons (X_assign (E_emeth H (E_var he (u := .val (.ref e)) rfl ⟨rfl, E₃.toEA, E_var he (u := .val (.ref a)) rfl ?_⟩) (F_e_propagate H).keeps))
  refine CallK.v (propagate_ok H A₃ E₃ O fun σ₄ S' b₄ D hC => T_var he ?_)
  have hbeq := hdue S' b₄ D.res hC
  have hL₄ : LLO σ₄ a c b (nowL S) := (hL₁.fr (Fr.le l₂')).fr D.fr
  have hdlo : dl ∉ own a c := own_fresh A hdl0
  have e₄ : σ₄ dl = some (.list (ptVs (dueL P (nowL S)))) := (D.fr _ _ hdlo e₂).1
  have hp₄ : σ₄ q = some (.list (ptVs P)) := (D.fr _ _ hpo (l₃ _ _ hp)).1
  have fr₄ : Fr a c σ c σ₄ := (Fr.le l₃).trans D.fr
  have O' := D.ok
  -- what the trail tells
  obtain ⟨u, L', hu, hch, hL'⟩ : ∃ u L', S'.trail = S.trail ++ u ∧ Chain m P (nowL S) u L' ∧ L' = nowL S' := by
    have res := D.res
    cases b₄ with
    | true =>
      have res : Path m S S' := res
      obtain ⟨u, h1, h2⟩ := res.chain O hP'
      exact ⟨u, _, h1, h2, rfl⟩
    | false =>
      obtain ⟨S₁, p, f⟩ := res
      obtain ⟨u, h1, h2⟩ := p.chain O hP'
      have := f.ok (p.ok O).1
      exact ⟨u, _, by rw [this.2.2.2.1]; exact h1, h2, by unfold nowL; rw [this.2.2.1]⟩
  subst hL'
  have hft : (b₄ = true → S'.failed = false) := fun hb => by
    subst hb
    have res : Path m S S' := D.res
    rw [(res.ok O).2.2.1]; exact hfl
  refine XS_cons (X_if (B_boolop ?_))
  refine B_compare (E_var he (u := .val (.bool b₄)) rfl (E_compare (E_var he (u := .val (.ref dl)) rfl (E_list ⟨by simp, fun b5 hb5 => ?_⟩))))
  have l₅ := St.Le.put (x := .list []) hb5
  refine O2_neP (k := []) (l₅ _ _ e₄) (St.put_self ..) (O2_neb ⟨_, rfl, ?_⟩)
  generalize σ₄.put b5 (.list []) = σ₅ at l₅ ⊢
  rw [← hbeq, show (b₄ != b₄) = false from by simp]
  show BAll _ _ _ _ _ _ _ _
  have A₅ := D.A.le l₅
  have w' := O'.w
  refine B_not (B_val (E_fcall he (globFact H (k := 25) (by rfl) (by rfl)) (F_law_strikes_right H).keeps (E_var he (u := .val (.ref a)) rfl (E_var he (u := .val (.ref b)) rfl (E_var he (u := .int ((S.trail.length : Nat) : Int)) rfl (E_var he (u := .val (.ref q)) rfl ?_))))))
  refine CallK.v (law_strikes_right_ok H A₅ hu (by exact ar68 w') (hL₄.ll.le l₅) hll hb3 (l₅ _ _ hp₄) hpl hPz (by exact ar76 hm) hch fun σ₆ hL₆ lb => ⟨_, rfl, ?_⟩)
  show BAll _ _ _ _ _ _ _ _
  have A₆ := A₅.leB (own_fresh A hb) lb
  have fr₆ : Fr a c σ c σ₆ := (fr₄.trans (Fr.le l₅)).leB hb lb
  have nqb : q ≠ b := by rintro rfl; rw [hp] at hb; cases hb
  have hp₆ : σ₆ q = some (.list (ptVs P)) := lb _ _ nqb (l₅ _ _ hp₄)
  have ndb : dl ≠ b := by
    rintro rfl
    obtain ⟨as, k1, k2, _⟩ := hL₄.ll.at'
    exact hL₄.ll.ne (by exact ar196 hll) e₄ (by intro v hv q; obtain ⟨i, _, rfl⟩ := List.mem_map.mp hv; intro h; cases h) rfl
  have e₆ : σ₆ dl = some (.list (ptVs (dueL P (nowL S)))) := lb _ _ ndb (l₅ _ _ e₄)
  refine B_compare (E_var he (u := .val (.ref b)) rfl (E_fcall he (globFact H (k := 23) (by rfl) (by rfl)) (F_law_now H).keeps (E_var he (u := .val (.ref a)) rfl ?_)))
  refine CallK.v (law_now_ok H A₆ O' fun b7 σ₇ hb7 l₇ hL₇ _ => ?_)
  refine O2_neL (hL₆.le l₇) hL₇.ll ⟨_, rfl, ?_⟩
  rw [decide_eq_false (fun q => q rfl)]
  refine ⟨fun q => (by cases q), fun _ => XS_nil ?_⟩
  have A₇ := A₆.le l₇
  have fr₇ := fr₆.trans (Fr.le l₇)
  have e₇ := l₇ _ _ e₆
  have hp₇ := l₇ _ _ hp₆
  have hLb := hL₆.le l₇
  clear hL₇ hb7 l₇ lb hL₆ A₆ fr₆ hp₆ e₆
  have hll' := now_len O'
  have hb3' : ∀ l ∈ nowL S', l.length ≤ 1000 := fun l hl => by
    obtain ⟨i, hi⟩ := List.mem_iff_getElem?.mp hl
    have hi' : i < m + 2 := by
      rcases Nat.lt_or_ge i (nowL S').length with z | z
      · exact ar205 hll' z
      · rw [List.getElem?_eq_none z] at hi; cases hi
    have := dS_vals_le O' hi'
    rw [← now_getD O' hi'] at this
    have e : (nowL S').getD i [] = l := by simp [hi]
    rw [e] at this; exact ar206 this
  refine XS_cons (X_if (B_not (B_val (E_var he (u := .val (.bool b₄)) rfl ⟨_, rfl, ?_⟩))))
  cases b₄ with
  | false =>
    refine ⟨fun _ => ?_, fun q => (by cases q)⟩
    obtain ⟨S₁, pa, f⟩ := D.res
    obtain ⟨O₁, ef₁, _⟩ := pa.ok O
    obtain ⟨t1, t2, t3, t4⟩ := f.tells O₁ (P := P) (fun p hp => by rw [ef₁]; exact hP' p hp)
    have hfl' := (f.ok O₁).2.2.2.2.1
    refine XS_cons (X_ret (E_and3 (E_sattr H (u := .val (.bool S'.failed)) (E_var he (u := .val (.ref a)) rfl ⟨rfl, A₇, KAnd.of rfl ?_⟩) rfl)))
    rw [hfl']
    refine ⟨fun _ => ?_, fun q => (by cases q)⟩
    refine E_fcall he (globFact H (k := 24) (by rfl) (by rfl)) (F_law_hold H).keeps (E_var he (u := .val (.ref b)) rfl (E_sattr H (u := .tup (S'.clash.map lv)) (E_var he (u := .val (.ref a)) rfl ⟨rfl, A₇, ?_⟩) rfl))
    refine CallK.v (law_hold_ok H hLb (ls := S'.clash) (fun _ _ => rfl) t2 hll' (by exact ar76 hm) hb3' fun σ₈ l₈ => KAnd.of rfl ?_)
    rw [t3]
    refine ⟨fun _ => ?_, fun q => (by cases q)⟩
    refine E_compare (E_fcall he (globFact H (k := 22) (by rfl) (by rfl)) (F_law_keep H).keeps (E_var he (u := .val (.ref q)) rfl (E_sattr H (u := .tup (S'.clash.map lv)) (E_var he (u := .val (.ref a)) rfl ⟨rfl, A₇.le l₈, ?_⟩) rfl)))
    refine CallK.v (law_keep_ok H (l₈ _ _ hp₇) (ls := S'.clash) (fun _ _ => rfl) t2 hpl (by exact ar76 hm) hPz (by exact ar210 t1) fun q₉ σ₉ hq₉ l₉ e₉ => E_list ⟨by simp, fun q10 hq10 => ?_⟩)
    have l₁₀ := St.Le.put (x := .list []) hq10
    refine O2_eqP (k := []) (l₁₀ _ _ e₉) (St.put_self ..) ?_
    rw [t4, decide_eq_true rfl]
    have ll := (l₈.trans l₉).trans l₁₀
    exact h _ S' false ⟨A₇.le ll, fr₇.trans (Fr.le ll), O', D.res⟩
  | true =>
  refine ⟨fun q => (by cases q), fun _ => XS_nil ?_⟩
  have res : Path m S S' := D.res
  have C := hC rfl
  have efs : S'.firsts = S.firsts := (res.ok O).2.1
  have hP₁ : ∀ p, p ∈ P ↔ AnsF m S'.firsts p := fun p => by rw [efs]; exact hP p
  have eds : dueL P (nowL S) = dueL P (nowL S') := (due_same res O hP').symm
  rw [eds] at e₇
  have hF' : ∀ x, 1 ≤ x → x < m + 2 → ∀ v ∈ valsD (fS S' x), v = -1 ∨ v = 0 ∨ v = 1 := fun x h1 h2 v hv => hF x h1 h2 v (by unfold fS at hv ⊢; rw [efs] at hv; exact hv)
  -- each value has an answer
  refine XS_cons (X_if (B_compare (E_comp1 (sck he) (E_fcall he (bltFact H (k := 3) (by rfl) (by rfl)) (keeps_type _ _) (E_fcall he (bltFact H (k := 5) (by rfl) (by rfl)) (keeps_builtin _ _) (E_var he (u := .val (.ref b)) rfl ?_))))))
  obtain ⟨as, k1, k2, k3⟩ := hLb.at'
  refine C_len_list (.of k1) (by simp; exact ar207 hm hll' k2) (C_range1 ?_)
  rw [show (((as.map fun a => V.val (.ref a)).length : Nat) : Int) = ((m + 2 : Nat) : Int) from by simp [k2, hll']]
  refine ⟨natVs (List.range (m + 2)), fun cenv hc => ?_⟩
  have hc := relabel_S he hc
  refine CL_pure (src := .rng 0 ((m + 2 : Nat) : Int) 1) (all := natVs (List.range (m + 2))) (σ₀ := σ₇) (p := fun _ => false) (F := fun x v _ => v = x) (fun ρ => ρ "lots" = some (.val (.ref b)) ∧ ρ "due" = some (.val (.ref dl))) (fun x ρ => ρ "x" = some x) (fun σ'' l => rng_m (by exact ar76 hm)) (fun x v σ' σ'' h _ => h) _ ?_ ?_ ?_ [] _ σ₇ ⟨by rfl, by rfl⟩ (.refl _) (by simp [natVs]; exact ar159 hm) ?_
  · intro x hx ρ σ' R hJ hl hR
    exact T_var hc (hR _ ⟨by rw [upd_ne (by decide)]; exact hJ.1, by rw [upd_ne (by decide)]; exact hJ.2⟩ (upd_self ..)) (fun h => h)
  · intro x hxm ρ σ' B hJ hG hl hB
    obtain ⟨i, hi, rfl⟩ := List.mem_map.mp hxm
    have hi := List.mem_range.mp hi
    obtain ⟨ai, hitem, hai⟩ := (hLb.le hl).item (y := y) (i := i) (by exact ar141 hll' hi) (by exact ar209 hm hll')
    refine B_compare (E_sub (E_var hc (u := .val (.ref b)) hJ.1 (E_var hc (u := .int (i : Int)) hG ⟨_, hitem, ?_⟩)))
    refine E_fcall hc (bltFact H (k := 6) (by rfl) (by rfl)) (keeps_builtin _ _) (E_fcall hc (bltFact H (k := 8) (by rfl) (by rfl)) (keeps_type _ _) (E_comp1 (sck hc) (E_var hc (u := .val (.ref dl)) hJ.2 ⟨ptVs (dueL P (nowL S')), fun cenv₂ hc₂ => ?_⟩)))
    have hc₂ := relabel_S hc hc₂
    refine CL_pure (src := .val (.ref dl)) (all := ptVs (dueL P (nowL S'))) (σ₀ := σ') (p := fun _ => true) (F := fun x v _ => ∃ p : List Int, x = ptv p ∧ v = .int (p.getD i 0)) (fun ρ => ρ "x" = some (.int (i : Int))) (fun x ρ => ρ "point" = some x) (fun σ'' l => .of (l _ _ (hl _ _ e₇))) (fun x v σ' σ'' h _ => h) _ ?_ ?_ ?_ [] _ σ' (by show cRho _ _ _ = _; exact hG) (.refl _) (by
        have : (dueL P (nowL S')).length ≤ P.length := List.length_filter_le ..
        simp [ptVs]; exact ar211 hPz this) ?_
    · intro x hx ρ σ' R hJ hl hR
      exact T_var hc₂ (hR _ (by rw [upd_ne (by decide)]; exact hJ) (upd_self ..)) (fun h => by cases h)
    · intro x hx ρ σ' B hJ hG hl hB
      exact hB σ' (.refl _)
    · intro x hxm ρ₂ σ₂ Q₂ hJ₂ hG₂ _ hl₂ hQ₂
      obtain ⟨p, hpm, rfl⟩ := List.mem_map.mp hxm
      have hpl := hpl p (List.mem_filter.mp hpm).1
      exact E_sub (E_var hc₂ (u := ptv p) hG₂ (E_var hc₂ (u := .int (i : Int)) hJ₂ ⟨_, item_pt (i := i) (by exact ar209 hm hpl) (by exact ar212 hi hpl), hQ₂ _ σ₂ (.refl _) ⟨p, rfl, rfl⟩⟩))
    · intro vs ρ₂ σ₂ _ l₂ hlen hvs q2 hq2
      have e0 : (ptVs (dueL P (nowL S'))).filter (fun _ => true) = ptVs (dueL P (nowL S')) := List.filter_eq_self.mpr fun _ _ => rfl
      rw [e0] at hlen hvs
      have ev : vs = intVs ((dueL P (nowL S')).map fun p => p.getD i 0) := by
        apply List.ext_getElem?
        intro j
        by_cases hj : j < (dueL P (nowL S')).length
        · obtain ⟨v, h1, p, h2, h3⟩ := hvs j (ptv (dueL P (nowL S'))[j]) (by simp [ptVs, hj])
          have := ptv_inj h2
          rw [h1, h3, ← this]
          simp [intVs, hj]
        · rw [List.getElem?_eq_none (by rw [hlen]; simp [ptVs]; exact ar4 hj), List.getElem?_eq_none (by simp [intVs]; exact ar4 hj)]
      rw [List.nil_append, ev]
      have l₃ := l₂.trans (St.Le.put (x := .list (intVs ((dueL P (nowL S')).map fun p => p.getD i 0))) hq2)
      have e₃ : (σ₂.put q2 (.list (intVs ((dueL P (nowL S')).map fun p => p.getD i 0)))) q2 = some (.list (intVs ((dueL P (nowL S')).map fun p => p.getD i 0))) := St.put_self ..
      generalize σ₂.put q2 (.list (intVs ((dueL P (nowL S')).map fun p => p.getD i 0))) = σ₃ at l₃ e₃ ⊢
      have few := due_few O' hP₁ hF' hi
      refine C_set e₃ few fun q3 hq3 => ?_
      refine C_sortedSet (St.put_self ..) (met_few few) (met_nodup _ _ (by simp)) fun q4 ns hq4 hper hsort => ?_
      have l₄ := (l₃.trans (St.Le.put hq3)).trans (St.Le.put (x := .list (intVs ns)) hq4)
      refine O2_neI (l₄ _ _ hai) (St.put_self ..) ⟨_, rfl, ?_⟩
      rw [due_vals O' C hP₁ hi hper hsort, decide_eq_false (fun q => q rfl)]
      exact hB _ l₄
  · intro x hxm ρ σ' Q hJ hG hf
    cases hf
  intro vs ρ' σ₈ _ l₈ hlen hvs q8 hq8
  have e0 : (natVs (List.range (m + 2))).filter (fun _ => false) = [] := List.filter_eq_nil_iff.mpr fun _ _ h => by cases h
  rw [e0] at hlen
  have ev : vs = [] := List.length_eq_zero_iff.mp hlen
  subst ev
  rw [List.nil_append]
  have l₉ := l₈.trans (St.Le.put (x := .list []) hq8)
  have e₉ : (σ₈.put q8 (.list [])) q8 = some (.list []) := St.put_self ..
  generalize σ₈.put q8 (.list []) = σ₉ at l₉ e₉ ⊢
  refine E_list ⟨by simp, fun q10 hq10 => ?_⟩
  have l₁₀ := l₉.trans (St.Le.put (x := .list []) hq10)
  refine O2_neI (l := []) (k := []) (St.Le.put hq10 _ _ e₉) (St.put_self ..) ⟨_, rfl, ?_⟩
  rw [decide_eq_false (fun q => q rfl)]
  refine ⟨fun q => (by cases q), fun _ => XS_nil ?_⟩
  generalize σ₉.put q10 (.list []) = σ₁₀ at l₁₀ ⊢
  have A₁₀ := A₇.le l₁₀
  have fr₁₀ := fr₇.trans (Fr.le l₁₀)
  have E₁₀ := Ee.fr fr₁₀
  -- asked again
  refine XS_cons (X_assign (E_fcall he (bltFact H (k := 5) (by rfl) (by rfl)) (keeps_builtin _ _) (E_sattr H (u := .val (.ref c.tr)) (E_var he (u := .val (.ref a)) rfl ⟨rfl, A₁₀, C_len_list (.of A₁₀.tr) (by simp; exact ar204 w') (T_var he ?_)⟩) rfl)))
  refine XS_cons (X_ret (E_and3 (E_compare (E_emeth H (E_var he (u := .val (.ref e)) rfl ⟨rfl, E₁₀.toEA, E_var he (u := .val (.ref a)) rfl ?_⟩) (F_e_propagate H).keeps))))
  refine CallK.v (propagate_ok H A₁₀ E₁₀ O' fun σ₁₁ S'' b₁₁ D' hC' => ?_)
  obtain ⟨rfl, rfl⟩ := D'.res.stays O' C
  have fr₁₁ := fr₁₀.trans D'.fr
  refine E_bool (O2_isTrue ⟨_, rfl, fun _ => ?_, fun q => (by cases q)⟩)
  refine E_compare (E_fcall he (bltFact H (k := 5) (by rfl) (by rfl)) (keeps_builtin _ _) (E_sattr H (u := .val (.ref c.tr)) (E_var he (u := .val (.ref a)) rfl ⟨rfl, D'.A, C_len_list (.of D'.A.tr) (by simp; exact ar204 w') (E_var he (u := .int ((S''.trail.map TE.v).length : Int)) rfl (O2_eqi (KAnd.of rfl ?_)))⟩) rfl))
  rw [show (((S''.trail.map TE.v).length : Int) == ((S''.trail.map TE.v).length : Int)) = true from by simp]
  refine ⟨fun _ => ?_, fun q => (by cases q)⟩
  refine E_unary (E_sattr H (u := .val (.bool S''.failed)) (E_var he (u := .val (.ref a)) rfl ⟨rfl, D'.A, O1_not ?_⟩) rfl)
  rw [hft rfl]
  exact h _ S'' true ⟨D'.A, fr₁₁, O', D.res⟩
end
end Mine
end
section
open PySem PySem.W PySem.Calls PyProof.Rows
set_option maxRecDepth 100000
set_option linter.unusedVariables false
namespace Mine
noncomputable def lotOk (n : Nat) (small : Bool) (l : List Int) : Bool := (bitsV (maskOf l) == l) && decide (maskOf l < 64) && decide (l.length ≤ n) && decide (l ≠ []) && (!small || l.all fun v => v == -1 || v == 0 || v == 1)
theorem fmod_lt (c : Int) {k : Nat} (hk : 0 < k) : ∃ i : Nat, i < k ∧ c.fmod k = i := by
  have h1 : 0 ≤ c.fmod k := Int.fmod_nonneg_of_pos c (by exact ar436 hk)
  have h2 : c.fmod k < k := Int.fmod_lt_of_pos c (by exact ar436 hk)
  exact ⟨(c.fmod k).toNat, by exact ar437 h1 h2, by exact ar438 h1⟩
theorem lot_else {n : Nat} {small : Bool} {base : Int} {l : List Int} {c : Int} (hn : 0 < n) (h1 : l ≠ [] → lotOk n small l = true) (h2 : ∀ i : Fin n, lotOk n small [base + (i : Nat)] = true) : lotOk n small (if l ≠ [] then l else [base + c.fmod n]) = true := by
  by_cases h : l ≠ []
  · rw [if_pos h]; exact h1 h
  · rw [if_neg h]
    obtain ⟨i, hi, e⟩ := fmod_lt c hn
    rw [e]
    exact h2 ⟨i, hi⟩
theorem lot5 (c : Int) : lotOk 5 false (lotL c 0 5) = true := by
  unfold lotL
  refine lot_else (n := 5) (by decide) (fun hne => ?_) (by decide +kernel)
  revert hne
  simp only [lotG]
  split <;> split <;> split <;> split <;> split <;> first | (intro h; exact absurd rfl h) | (intro _; decide +kernel)
theorem lot3 (c : Int) : lotOk 3 true (lotL c (-1) 3) = true := by
  unfold lotL
  refine lot_else (n := 3) (by decide) (fun hne => ?_) (by decide +kernel)
  revert hne
  simp only [lotG]
  split <;> split <;> split <;> first | (intro h; exact absurd rfl h) | (intro _; decide +kernel)
theorem lot2 (c : Int) : lotOk 2 true (lotL c (-1) 2) = true := by
  unfold lotL
  refine lot_else (n := 2) (by decide) (fun hne => ?_) (by decide +kernel)
  revert hne
  simp only [lotG]
  split <;> split <;> first | (intro h; exact absurd rfl h) | (intro _; decide +kernel)
theorem lot_facts {n : Nat} {small : Bool} {l : List Int} (h : lotOk n small l = true) : Can (ranges l) ∧ valsD (ranges l) = l ∧ ranges l ≠ [] ∧ l.length ≤ n ∧ (small = true → ∀ v ∈ l, v = -1 ∨ v = 0 ∨ v = 1) := by
  unfold lotOk at h
  simp only [Bool.and_eq_true, beq_iff_eq, decide_eq_true_eq, Bool.or_eq_true, Bool.not_eq_true', List.all_eq_true] at h
  obtain ⟨⟨⟨⟨h1, h2⟩, h3⟩, h4⟩, h5⟩ := h
  have hc : ranges l = domOf (maskOf l) := by unfold domOf; rw [h1]
  have hcan : Can (ranges l) := ⟨⟨maskOf l, h2⟩, hc⟩
  have hv : valsD (ranges l) = l := by
    rw [hc]
    have := d_vals ⟨maskOf l, h2⟩
    rw [this]; exact h1
  refine ⟨hcan, hv, fun q => h4 ?_, h3, fun hs v hv => ?_⟩
  · rw [← hv]; exact hcan.nil.mp q
  · rcases h5 with h | h
    · rw [hs] at h; cases h
    · have := h v hv
      simp [or_assoc] at this
      assumption
noncomputable def dflt : List Int := [0, 14, 5, 5, 15, 0]
noncomputable def cellAt (sc : List Int) (k : Nat) : Int := if k < sc.length then sc.getD k 0 else dflt.getD k 0
noncomputable def lotAt (sc : List Int) (m x : Nat) : List Int := if x = 0 then lotL (cellAt sc 1) 0 5 else lotL (cellAt sc (x + 1)) (-1) (5 - m)
noncomputable def lotsV (sc : List Int) (m : Nat) : List (List Int) := (List.range (m + 2)).map (lotAt sc m)
noncomputable def startS (ls : List (List Int)) : SS := ⟨ls.map ranges, ls.map ranges, [], [], false, [], 0⟩
theorem lotsV_len (sc : List Int) (m : Nat) : (lotsV sc m).length = m + 2 := by simp [lotsV]
theorem lotsV_getD (sc : List Int) (m : Nat) {x : Nat} (hx : x < m + 2) : (lotsV sc m).getD x [] = lotAt sc m x := by simp [lotsV, hx]
theorem lotAt_ok (sc : List Int) {m : Nat} (hm : m = 2 ∨ m = 3) (x : Nat) : lotOk (if x = 0 then 5 else 5 - m) (decide (x ≠ 0)) (lotAt sc m x) = true := by
  unfold lotAt
  by_cases h : x = 0
  · subst h
    exact lot5 _
  · rw [if_neg h, if_neg h, decide_eq_true h]
    rcases hm with rfl | rfl
    · exact lot3 _
    · exact lot2 _
theorem lots_ok (sc : List Int) {m : Nat} (hm : m = 2 ∨ m = 3) {l : List Int} (hl : l ∈ lotsV sc m) : Can (ranges l) ∧ valsD (ranges l) = l ∧ ranges l ≠ [] ∧ l.length ≤ 5 := by
  obtain ⟨x, _, rfl⟩ := List.mem_map.mp hl
  obtain ⟨h1, h2, h3, h4, _⟩ := lot_facts (lotAt_ok sc hm x)
  refine ⟨h1, h2, h3, Nat.le_trans h4 ?_⟩
  split <;> (first | exact Nat.le_refl _ | exact ar239)
theorem startS_f (sc : List Int) {m : Nat} {x : Nat} (hx : x < m + 2) : fS (startS (lotsV sc m)) x = ranges (lotAt sc m x) := by simp [fS, startS, lotsV, hx]
theorem start_ok (sc : List Int) {m : Nat} (hm : m = 2 ∨ m = 3) : OKS m (startS (lotsV sc m)) where
  hm := by exact ar440 hm
  ld := by simp [startS, lotsV]
  lf := by simp [startS, lotsV]
  can := fun D hD => by
    obtain ⟨l, hl, rfl⟩ := List.mem_map.mp hD
    obtain ⟨h1, _, h3, _⟩ := lots_ok sc hm hl
    exact ⟨h1, h3⟩
  canf := fun D hD => by
    obtain ⟨l, hl, rfl⟩ := List.mem_map.mp hD
    obtain ⟨h1, _, h3, _⟩ := lots_ok sc hm hl
    exact ⟨h1, h3⟩
  sub := fun x hx v hv => hv
  v3 := fun x h1 hx => by
    show (valsD (fS (startS (lotsV sc m)) x)).length ≤ 3
    rw [startS_f sc hx]
    obtain ⟨_, h2, _, h4, _⟩ := lot_facts (lotAt_ok sc hm x)
    rw [h2]
    rw [if_neg (by exact ar428 h1)] at h4
    exact ar441 hm h4
  w := by
    show 0 + roomD ((lotsV sc m).map ranges) ≤ 14
    have key : ∀ x, (valsD (ranges (lotAt sc m x))).length ≤ if x = 0 then 5 else 5 - m := fun x => by
      obtain ⟨_, h2, _, h4, _⟩ := lot_facts (lotAt_ok sc hm x)
      rw [h2]; exact h4
    have k0 := key 0
    have k1 := key 1
    have k2 := key 2
    have k3 := key 3
    have k4 := key 4
    rw [if_pos rfl] at k0
    rw [if_neg (by (first | exact ar442 | exact ar443 | exact ar444 | exact ar445))] at k1 k2 k3 k4
    unfold roomD lotsV
    rcases hm with rfl | rfl
    · simp [List.range_succ] at *; exact ar446 k0 k1 k2 k3
    · simp [List.range_succ] at *; exact ar447 k0 k1 k2 k3 k4
  nw := Nat.le_refl _
theorem start_few (sc : List Int) {m : Nat} (hm : m = 2 ∨ m = 3) : ∀ x, 1 ≤ x → x < m + 2 → ∀ v ∈ valsD (fS (startS (lotsV sc m)) x), v = -1 ∨ v = 0 ∨ v = 1 := fun x h1 hx v hv => by
  rw [startS_f sc hx] at hv
  obtain ⟨_, h2, _, _, h5⟩ := lot_facts (lotAt_ok sc hm x)
  rw [h2] at hv
  exact h5 (decide_eq_true (by exact ar448 h1)) v hv
theorem mem_foldl : ∀ (ls ps : List (List Int)) (p : List Int), p ∈ ls.foldl extendP ps ↔ ∃ p₀ ∈ ps, ∃ t : List Int, p = p₀ ++ t ∧ t.length = ls.length ∧ ∀ x, x < ls.length → t.getD x 0 ∈ ls.getD x []
  | [], ps, p => by
    constructor
    · intro h; exact ⟨p, h, [], by simp, rfl, fun x hx => by simp at hx⟩
    · rintro ⟨p₀, h, t, e, hl, _⟩
      have : t = [] := List.length_eq_zero_iff.mp hl
      subst this
      rw [e, List.append_nil]; exact h
  | l :: ls, ps, p => by
    rw [List.foldl_cons, mem_foldl ls]
    constructor
    · rintro ⟨p₁, h₁, t, e, hl, ht⟩
      unfold extendP at h₁
      obtain ⟨p₀, h₀, h₁⟩ := List.mem_flatMap.mp h₁
      obtain ⟨v, hv, rfl⟩ := List.mem_map.mp h₁
      refine ⟨p₀, h₀, v :: t, by rw [e]; simp, by simp [hl], fun x hx => ?_⟩
      cases x with
      | zero => simpa using hv
      | succ x => simpa using ht x (by simpa using hx)
    · rintro ⟨p₀, h₀, t, e, hl, ht⟩
      cases t with
      | nil => simp at hl
      | cons v t =>
        refine ⟨p₀ ++ [v], ?_, t, by rw [e]; simp, by simpa using hl, fun x hx => ?_⟩
        · unfold extendP
          exact List.mem_flatMap.mpr ⟨p₀, h₀, List.mem_map.mpr ⟨v, by simpa using ht 0 (by simp), rfl⟩⟩
        · simpa using ht (x + 1) (by simpa using hx)
theorem points_mem {ls : List (List Int)} {p : List Int} : p ∈ pointsL ls ↔ p.length = ls.length ∧ ∀ x, x < ls.length → p.getD x 0 ∈ ls.getD x [] := by
  unfold pointsL
  rw [mem_foldl]
  constructor
  · rintro ⟨p₀, h, t, e, hl, ht⟩
    rw [List.mem_singleton] at h
    subst h
    rw [List.nil_append] at e
    subst e
    exact ⟨hl, ht⟩
  · rintro ⟨hl, ht⟩
    exact ⟨[], by simp, p, rfl, hl, ht⟩
theorem answers_mem (sc : List Int) {m : Nat} (hm : m = 2 ∨ m = 3) (p : List Int) : p ∈ (pointsL (lotsV sc m)).filter isAns ↔ AnsF m (startS (lotsV sc m)).firsts p := by
  rw [List.mem_filter, points_mem, lotsV_len]
  unfold AnsF
  rw [and_assoc]
  refine and_congr_right fun hl => and_congr_left fun _ => forall_congr' fun x => forall_congr' fun hx => ?_
  have : valsD ((startS (lotsV sc m)).firsts.getD x []) = lotAt sc m x := by
    have := startS_f sc (m := m) hx
    unfold fS at this
    rw [this]
    exact (lot_facts (lotAt_ok sc hm x)).2.1
  rw [lotsV_getD sc m hx, this]
inductive Lev (m : Nat) (F : List Dom) : List Dom → List TE → List Int → List (List Dom) → Prop
  | nil {D : List Dom} {t : List TE} : Lev m F D t [] []
  | snoc {D doms : List Dom} {t u : List TE} {ms : List Int} {ks : List (List Dom)} (h : Lev m F D t ms ks) (hO : OKC m F D t) (hu : undo doms u = D) (hr : ∀ e ∈ u, 0 ≤ e.lit.1 ∧ e.lit.1 < (m : Int) + 2) : Lev m F doms (t ++ u) (ms ++ [(t.length : Int)]) (ks ++ [D])
theorem undo_append (d : List Dom) (u v : List TE) : undo d (u ++ v) = undo (undo d v) u := by simp [undo]
theorem Lev.more {m : Nat} {F D D' : List Dom} {t : List TE} {e : TE} {ms : List Int} {ks : List (List Dom)} (l : Lev m F D t ms ks) (h : undo D' [e] = D) (he : 0 ≤ e.lit.1 ∧ e.lit.1 < (m : Int) + 2) : Lev m F D' (t ++ [e]) ms ks := by
  cases l with
  | nil => exact .nil
  | snoc l hO hu hr =>
    rw [List.append_assoc]
    refine .snoc l hO (by rw [undo_append, h]; exact hu) fun z hz => ?_
    rcases List.mem_append.mp hz with hz | hz
    · exact hr z hz
    · rw [List.mem_singleton] at hz; subst hz; exact he
theorem undo_one {m : Nat} {S : SS} (O : OKS m S) {x : Nat} (hx : x < m + 2) {fresh : Dom} {s : Sg} {j : Int} {why : Option (List Lit)} : undo (S.doms.set x fresh) [⟨dS S x, ((x : Int), s, j), why⟩] = S.doms := by
  show (S.doms.set x fresh).set ((x : Int)).toNat (dS S x) = S.doms
  rw [Int.toNat_natCast, List.set_set]
  obtain ⟨h, e⟩ := O.dget hx
  rw [← e, List.set_getElem_self]
theorem Path.lev {m : Nat} {S S' : SS} {ms : List Int} {ks : List (List Dom)} (p : Path m S S') (O : OKS m S) (l : Lev m S.firsts S.doms S.trail ms ks) : Lev m S.firsts S'.doms S'.trail ms ks := by
  induction p with
  | refl => exact l
  | step p s ih =>
    obtain ⟨O₁, ef, _⟩ := p.ok O
    cases s with
    | @mk x s j r fresh hx so hc hne hv hlt h1 h2 hr =>
      exact ih.more (undo_one O₁ hx) ⟨by show (0 : Int) ≤ (x : Int); exact ar9, by show (x : Int) < _; exact ar199 hx⟩
theorem Res.lev {m : Nat} {S S' : SS} {b : Bool} {ms : List Int} {ks : List (List Dom)} (p : Res m S S' b) (O : OKS m S) (l : Lev m S.firsts S.doms S.trail ms ks) : Lev m S.firsts S'.doms S'.trail ms ks := by
  cases b with
  | true => exact Path.lev p O l
  | false =>
    obtain ⟨S₁, p, f⟩ := p
    have := f.ok (p.ok O).1
    rw [this.2.2.1, this.2.2.2.1]
    exact p.lev O l
theorem Res.failed {m : Nat} {S S' : SS} {b : Bool} (p : Res m S S' b) (O : OKS m S) (h : S.failed = false) : S'.failed = !b := by
  cases b with
  | true => rw [(Path.ok p O).2.2.1, h]; rfl
  | false =>
    obtain ⟨S₁, p, f⟩ := p
    exact (f.ok (p.ok O).1).2.2.2.2.1
end Mine
end
section
open PySem PySem.W PySem.Calls PyProof.Rows
set_option maxRecDepth 100000
set_option linter.unusedVariables false
namespace Mine
structure LK (σ : St) (a : Addr) (c : SC) (kb z : Addr) (L : List (List Int)) : Prop where
  llo : LLO σ a c z L
  nz : z ≠ kb
  ne : ∀ vs w, σ z = some (.list vs) → V.val (.ref w) ∈ vs → w ≠ kb
theorem LK.fr {σ σ' : St} {a kb z : Addr} {c c' : SC} {L : List (List Int)} (x : LK σ a c kb z L) (l : Fr a c σ c' σ') : LK σ' a c' kb z L := by
  refine ⟨x.llo.fr l, x.nz, fun vs w e hw => ?_⟩
  obtain ⟨as, h1, _⟩ := x.llo.at'
  have := (l _ _ x.llo.nb h1).1
  rw [this] at e
  cases e
  exact x.ne _ w h1 hw
theorem LK.put {σ : St} {a kb z : Addr} {c : SC} {L : List (List Int)} {o : AO} (x : LK σ a c kb z L) : LK (σ.put kb o) a c kb z L := by
  obtain ⟨as, h1, h2, h3, h4⟩ := x.llo.at'
  have hn : ∀ w ∈ as, w ≠ kb := fun w hw => x.ne _ w h1 (List.mem_map.mpr ⟨w, hw, rfl⟩)
  have e1 : (σ.put kb o) z = some (.list (as.map fun a => V.val (.ref a))) := by rw [St.put_ne x.nz]; exact h1
  refine ⟨⟨⟨as, e1, h2, fun i w l e e' => ?_, h4⟩, x.llo.nb⟩, x.nz, fun vs w e hw => ?_⟩
  · rw [St.put_ne (hn w (List.mem_of_getElem? e))]; exact h3 i w l e e'
  · rw [e1] at e; cases e; exact x.ne _ w h1 hw
structure Fp (m : Nat) (P : List (List Int)) (a e d q sb kb nb : Addr) (nums : List Int) (c : SC) (zs : List Addr) (Ls : List (List (List Int))) (σ : St) : Prop where
  Ee : EA' σ e d m a c
  hq : σ q = some (.list (ptVs P))
  qo : q ∉ own a c
  hs : σ sb = some (.list (natVs (scopeL m)))
  so : sb ∉ own a c
  hn : σ nb = some (.list (intVs nums))
  no : nb ∉ own a c
  hk : σ kb = some (.list (zs.map fun z => V.val (.ref z)))
  ko : kb ∉ own a c
  ek : e ≠ kb
  dk : d ≠ kb
  qk : q ≠ kb
  sk : sb ≠ kb
  nk : nb ≠ kb
  zl : zs.length = Ls.length
  zz : ∀ (i : Nat) z L, zs[i]? = some z → Ls[i]? = some L → LK σ a c kb z L
section
variable {m : Nat} {P : List (List Int)} {a e d q sb kb nb : Addr} {nums : List Int} {c c' : SC} {zs : List Addr} {Ls : List (List (List Int))} {σ σ' : St}
theorem Fp.fr (F : Fp m P a e d q sb kb nb nums c zs Ls σ) (l : Fr a c σ c' σ') : Fp m P a e d q sb kb nb nums c' zs Ls σ' where
  Ee := F.Ee.fr l
  hq := (l _ _ F.qo F.hq).1
  qo := (l _ _ F.qo F.hq).2
  hs := (l _ _ F.so F.hs).1
  so := (l _ _ F.so F.hs).2
  hn := (l _ _ F.no F.hn).1
  no := (l _ _ F.no F.hn).2
  hk := (l _ _ F.ko F.hk).1
  ko := (l _ _ F.ko F.hk).2
  ek := F.ek
  dk := F.dk
  qk := F.qk
  sk := F.sk
  nk := F.nk
  zl := F.zl
  zz := fun i z L e e' => (F.zz i z L e e').fr l
theorem Fp.put (F : Fp m P a e d q sb kb nb nums c zs Ls σ) {zs' : List Addr} {Ls' : List (List (List Int))} (hl : zs'.length = Ls'.length) (hz : ∀ (i : Nat) z L, zs'[i]? = some z → Ls'[i]? = some L → LK σ a c kb z L) :
    Fp m P a e d q sb kb nb nums c zs' Ls' (σ.put kb (.list (zs'.map fun z => V.val (.ref z)))) where
  Ee := ⟨⟨by rw [St.put_ne F.ek]; exact F.Ee.inst, by rw [St.put_ne F.dk]; exact F.Ee.att⟩, F.Ee.ne, F.Ee.nd⟩
  hq := by rw [St.put_ne F.qk]; exact F.hq
  qo := F.qo
  hs := by rw [St.put_ne F.sk]; exact F.hs
  so := F.so
  hn := by rw [St.put_ne F.nk]; exact F.hn
  no := F.no
  hk := St.put_self ..
  ko := F.ko
  ek := F.ek
  dk := F.dk
  qk := F.qk
  sk := F.sk
  nk := F.nk
  zl := hl
  zz := fun i z L e e' => (hz i z L e e').put
theorem Fp.push (F : Fp m P a e d q sb kb nb nums c zs Ls σ) {z : Addr} {L : List (List Int)} (hz : LK σ a c kb z L) : Fp m P a e d q sb kb nb nums c (zs ++ [z]) (Ls ++ [L]) (σ.put kb (.list ((zs ++ [z]).map fun z => V.val (.ref z)))) :=
  F.put (by simp [F.zl]) fun i w K e e' => by
    rcases Nat.lt_trichotomy i zs.length with h | h | h
    · rw [List.getElem?_append_left h] at e
      rw [List.getElem?_append_left (by rw [← F.zl]; exact h)] at e'
      exact F.zz i w K e e'
    · subst h
      have e' : (Ls ++ [L])[Ls.length]? = some K := by rw [← F.zl]; exact e'
      rw [List.getElem?_append_right (by exact Nat.le_refl _)] at e e'
      simp at e e'
      subst e; subst e'
      exact hz
    · rw [List.getElem?_eq_none (by simp; assumption)] at e; cases e
theorem Fp.pop {z : Addr} {L : List (List Int)} (F : Fp m P a e d q sb kb nb nums c (zs ++ [z]) (Ls ++ [L]) σ) : LK σ a c kb z L ∧ zs.length = Ls.length ∧ Fp m P a e d q sb kb nb nums c zs Ls (σ.put kb (.list (zs.map fun z => V.val (.ref z)))) := by
  have hl : zs.length = Ls.length := by have := F.zl; simpa using this
  refine ⟨F.zz zs.length z L (by simp) (by rw [hl]; simp), hl, F.put hl fun i w K e e' => ?_⟩
  have h : i < zs.length := by
    rcases Nat.lt_or_ge i zs.length with h | h
    · exact h
    · rw [List.getElem?_eq_none h] at e; cases e
  exact F.zz i w K (by rw [List.getElem?_append_left h]; exact e) (by rw [List.getElem?_append_left (by exact ar155 hl h)]; exact e')
theorem rdl_kept {y : Sy} {σ : St} : ∀ (zs : List Addr) (Ls : List (List (List Int))), zs.length = Ls.length → (∀ (i : Nat) z L, zs[i]? = some z → Ls[i]? = some L → LL σ z L) → RdL y σ (zs.map fun z => V.val (.ref z)) (Ls.map fun L => Dat.list (datL L))
  | [], [], _, _ => .nil
  | z :: zs, L :: Ls, hl, h => by
    obtain ⟨as, h1, h2, h3⟩ := (h 0 z L rfl rfl).at'
    exact .cons (.list (.of h1) (rdl_lists y σ as L h2 h3)) (rdl_kept zs Ls (by simpa using hl) fun i z K e e' => h (i + 1) z K (by simpa using e) (by simpa using e'))
  | [], _ :: _, hl, _ => by simp at hl
  | _ :: _, [], hl, _ => by simp at hl
theorem okK (Ls : List (List (List Int))) : kqdOk 9 (.list (Ls.map fun L => Dat.list (datL L))) = true := by
  unfold kqdOk
  rw [List.all_map, List.all_eq_true]
  intro L _
  exact okL L 8 (by exact ar215)
theorem Lev.last {F d : List Dom} {t : List TE} {ms : List Int} {ks : List (List Dom)} (l : Lev m F d t ms ks) (h : ks ≠ []) : ∃ (D : List Dom) (t₀ u : List TE) (ms₀ : List Int) (ks₀ : List (List Dom)), ks = ks₀ ++ [D] ∧ ms = ms₀ ++ [(t₀.length : Int)] ∧ t = t₀ ++ u ∧ Lev m F D t₀ ms₀ ks₀ ∧ OKC m F D t₀ ∧ undo d u = D ∧ (∀ e ∈ u, 0 ≤ e.lit.1 ∧ e.lit.1 < (m : Int) + 2) ∧ ms₀.length = ks₀.length := by
  have key : ∀ {d : List Dom} {t : List TE} {ms : List Int} {ks : List (List Dom)}, Lev m F d t ms ks → ms.length = ks.length := by
    intro d t ms ks l
    induction l with
    | nil => rfl
    | snoc _ _ _ _ ih => simp [ih]
  cases l with
  | nil => exact absurd rfl h
  | snoc l hO hu hr => exact ⟨_, _, _, _, _, rfl, rfl, rfl, l, hO, hu, hr, key l⟩
theorem Lev.len {F d : List Dom} {t : List TE} {ms : List Int} {ks : List (List Dom)} (l : Lev m F d t ms ks) : ms.length = ks.length := by
  induction l with
  | nil => rfl
  | snoc _ _ _ _ ih => simp [ih]
theorem last_of {α : Type} {l : List α} {n : Nat} (h : l.length = n + 1) : ∃ r x, l = r ++ [x] ∧ r.length = n := by
  have hne : l ≠ [] := by rintro rfl; simp at h
  refine ⟨l.dropLast, l.getLast hne, (List.dropLast_concat_getLast hne).symm, by simp [h]⟩
theorem pick_map {α β : Type} (f : α → β) (l : List α) (lo hi : Option Int) : pick (l.map f) lo hi = (pick l lo hi).map f := by
  rw [pick_eq, pick_eq, List.length_map, List.map_take, List.map_drop]
theorem clip_le (n : Nat) (k : Nat) : clipAt n (k : Int) = min k n := by
  unfold clipAt
  have h0 : ¬ (k : Int) < 0 := by exact ar216
  simp only [h0, if_false]
  exact ar217
theorem pick_6_14 (l : List Int) : (pick l (some 6) (some 14)).length ≤ 8 := by
  rw [pick_eq]
  simp only [Option.elim]
  rw [show (6 : Int) = ((6 : Nat) : Int) from rfl, show (14 : Int) = ((14 : Nat) : Int) from rfl, clip_le, clip_le, List.length_take]
  exact ar218
theorem pick_mid {m : Nat} (hm : m = 2 ∨ m = 3) : pick (natVs (scopeL m)) (some 1) (some (-1)) = natVs (cellsL m) := by
  rw [pick_eq]
  rcases hm with rfl | rfl <;> rfl
theorem decide_lev {S : SS} {ks : List (List Dom)} (O : OKS m S) {x : Nat} {s : Sg} {j : Int} (hx : x < m + 2) (hj : -3 ≤ j ∧ j ≤ 6) (hf : S.failed = false) (l : Lev m S.firsts S.doms S.trail S.marks ks) :
    ∃ S' b, enterS S (x, s, j) none = (S', b) ∧ OKS m S' ∧ S'.firsts = S.firsts ∧ Lev m S.firsts S'.doms S'.trail S'.marks ks ∧ (b = true → S'.failed = false) := by
  rcases enter_cases O (s := s) (why := none) hx hj with ⟨h, e⟩ | ⟨h, e⟩ | ⟨fresh, hc, hne, hv, hlt, h1, h2, e⟩
  · exact ⟨_, _, e, ⟨O.toOKC, O.nw⟩, rfl, l, fun q => by cases q⟩
  · exact ⟨_, _, e, O, rfl, l, fun _ => hf⟩
  · refine ⟨_, _, e, ⟨O.toOKC.set hx hc hne (fun v hm => ?_) hlt, ?_⟩, rfl, l.more (undo_one O hx) ⟨by show (0 : Int) ≤ (x : Int); exact ar9, by show (x : Int) < _; exact ar199 hx⟩, fun _ => hf⟩
    · rw [hv] at hm; exact (List.mem_filter.mp hm).1
    · show _ ≤ (_ ++ [_]).length
      rw [List.length_append, List.length_singleton]
      have := O.nw
      show _ + 1 ≤ _ + 1
      exact ar219 this
theorem sg_item {y : Sy} {σ : St} {i : Nat} (hi : i < 4) : ∃ s : Sg, Item y σ (.tup [.str "<=", .str ">=", .str "=", .str "!="]) (.int (i : Int)) (.str s.s) := by
  have : i = 0 ∨ i = 1 ∨ i = 2 ∨ i = 3 := by exact ar220 hi
  rcases this with rfl | rfl | rfl | rfl
  · exact ⟨.le, item0 (j := 0) (by decide) rfl rfl⟩
  · exact ⟨.ge, item0 (j := 1) (by decide) rfl rfl⟩
  · exact ⟨.eq, item0 (j := 2) (by decide) rfl rfl⟩
  · exact ⟨.ne, item0 (j := 3) (by decide) rfl rfl⟩
theorem St.LeB.put {σ : St} {b : Addr} {o : AO} : St.LeB b σ (σ.put b o) := fun q z n e => by rw [St.put_ne n]; exact e
end
structure LI (m : Nat) (P : List (List Int)) (a e d q sb kb nb : Addr) (nums : List Int) (F : List Dom) (k : Nat) (σ : St) : Prop where
  at' : ∃ (c : SC) (S : SS) (zs : List Addr) (ks : List (List Dom)), SA σ a c S ∧ OKS m S ∧ S.failed = false ∧ S.firsts = F ∧ Lev m F S.doms S.trail S.marks ks ∧ ks.length ≤ k ∧ Fp m P a e d q sb kb nb nums c zs (ks.map fun D => D.map valsD) σ
noncomputable def LE (a e q sb kb : Addr) (ρ : Env1) : Prop := ρ "store" = some (.val (.ref a)) ∧ ρ "rule" = some (.val (.ref e)) ∧ ρ "answers" = some (.val (.ref q)) ∧ ρ "scope" = some (.val (.ref sb)) ∧ ρ "kept" = some (.val (.ref kb))
end Mine
end
section
open PySem PySem.W PySem.Calls PyProof.Rows
set_option maxRecDepth 100000
set_option linter.unusedVariables false
namespace Mine
section
variable {y : Sy} {n : Nat} {σ : St} {Q : V → St → Prop} {env : Env} {W : Str → Prop} {ρ : Env1} {a b e d q : Addr} {c : SC} {S : SS} {m : Nat}
theorem item_ints {l : List Int} (hb : σ b = some (.list (intVs l))) {i : Nat} (hi : i < l.length) (hz : l.length ≤ 100000) : Item y σ (.val (.ref b)) (.int (i : Int)) (.int (l.getD i 0)) :=
  ⟨_, i, .of hb, by simp [intVs]; exact ar139 hz, by rw [seqIndex_pos (by exact ar9) (by simp [intVs]; assumption)]; simp, by simp [intVs, hi]⟩
theorem item_nats {l : List Nat} (hb : σ b = some (.list (natVs l))) {i : Nat} (hi : i < l.length) (hz : l.length ≤ 100000) : Item y σ (.val (.ref b)) (.int (i : Int)) (.int ((l.getD i 0 : Nat) : Int)) :=
  ⟨_, i, .of hb, by simp [natVs]; exact ar139 hz, by rw [seqIndex_pos (by exact ar9) (by simp [natVs]; assumption)]; simp, by simp [natVs, hi]⟩
theorem item_natsL {l : List Nat} (hb : σ b = some (.list (natVs (l ++ [m])))) (hz : l.length ≤ 100000) : Item y σ (.val (.ref b)) (.int (-1)) (.int ((m : Nat) : Int)) :=
  ⟨_, l.length, .of hb, by simp [natVs]; exact ar221 hz, by rw [seqIndex_neg (by exact ar11) (by simp [natVs]; exact ar145)]; simp [natVs]; exact ar146, by simp [natVs]⟩
noncomputable def cellsV (sc : List Int) : List Int := (List.range 6).map (cellAt sc)
theorem cellsV_getD (sc : List Int) {k : Nat} (hk : k < 6) : (cellsV sc).getD k 0 = cellAt sc k := by simp [cellsV, hk]
theorem item_cellsV {sc : List Int} (hb : σ b = some (.list (intVs (cellsV sc)))) {k : Nat} (hk : k < 6) : Item y σ (.val (.ref b)) (.int (k : Int)) (.int (cellAt sc k)) := by
  have := item_ints (y := y) hb (i := k) (by simp [cellsV]; assumption) (by simp [cellsV])
  rw [cellsV_getD sc hk] at this; exact this
theorem rdl_nats (y : Sy) (σ : St) (l : List Nat) : RdL y σ (natVs l) (l.map fun (i : Nat) => Dat.int i) := by
  induction l with
  | nil => exact .nil
  | cons v l ih => exact .cons (.int _) ih
theorem item_dflt {k : Nat} (hk : k < 6) : Item y σ (.tup [.int 0, .int 14, .int 5, .int 5, .int 15, .int 0]) (.int (k : Int)) (.int (dflt.getD k 0)) := by
  have : (dflt.map V.int)[k]? = some (.int (dflt.getD k 0)) := by
    rw [List.getElem?_map]
    have : k < dflt.length := hk
    simp [this]
  exact item0 (j := k) (by decide) (by rw [seqIndex_pos (by exact ar9) (by show (k : Int) < (6 : Nat); exact ar223 hk)]; simp) this
set_option maxHeartbeats 3200000 in
theorem law_ok (H : Says y.B) (hS : SupOk y) {sa : Addr} {sc : List Int} (hs : ∀ σ', Lst y σ' sa (intVs sc)) (hz : sc.length ≤ 1000) (h : ∀ σ', Q (.val (.bool true)) σ') : CallK y (n + 9) σ (.ref 470) [.val (.ref sa)] Q := by
  refine K_fn (F_law0 H) (by kernel_rfl) rfl fun env he => ?_
  -- cells
  refine XS_cons (X_assign (E_comp1 (sck he) (E_fcall he (bltFact H (k := 3) (by rfl) (by rfl)) (keeps_type _ _) (E_int (C_range1 ⟨natVs (List.range 6), fun cenv hc => ?_⟩)))) (by rw [swaps_env (env' := envS _) he]; rfl))
  have hc := relabel_S he hc
  refine CL_pure (src := .rng 0 6 1) (all := natVs (List.range 6)) (σ₀ := σ) (p := fun _ => true) (F := fun x v _ => ∃ k : Nat, x = .int (k : Int) ∧ v = .int (cellAt sc k)) (fun ρ => ρ "script" = some (.val (.ref sa))) (fun x ρ => ρ "k" = some x) (fun σ' l => rng_m (m := 4) (by exact ar224)) (fun x v σ' σ'' h _ => h) _ ?_ ?_ ?_ [] _ σ (by rfl) (.refl _) (by simp [natVs]) ?_
  · intro x hx ρ σ' R hJ hl hR
    exact T_var hc (hR _ (by rw [upd_ne (by decide)]; exact hJ) (upd_self ..)) (fun h => by cases h)
  · intro x hx ρ σ' B hJ hG hl hB
    exact hB σ' (.refl _)
  · intro x hxm ρ σ' Q hJ hG _ hl hQ
    obtain ⟨k, hk, rfl⟩ := List.mem_map.mp hxm
    have hk := List.mem_range.mp hk
    have hq := hQ (.int (cellAt sc k)) σ' (.refl _) ⟨k, rfl, rfl⟩
    have el : ((intVs sc).length : Int) = ((sc.length : Nat) : Int) := by simp [intVs]
    refine E_ifexp (B_compare (E_var hc (u := .int (k : Int)) hG (E_fcall hc (bltFact H (k := 5) (by rfl) (by rfl)) (keeps_builtin _ _) (E_var hc (u := .val (.ref sa)) hJ (C_len_list (hs _) (by simp [intVs]; exact ar8 hz) (O2_lt ⟨_, rfl, fun h1 => ?_, fun h1 => ?_⟩))))))
    · have h1 := of_decide_eq_true h1
      rw [el] at h1
      have h1 : k < sc.length := by exact ar225 h1
      refine E_sub (E_var hc (u := .val (.ref sa)) hJ (E_var hc (u := .int (k : Int)) hG ⟨.int (sc.getD k 0), ⟨_, k, hs _, by simp [intVs]; exact ar8 hz, by rw [seqIndex_pos (by exact ar9) (by simp [intVs]; assumption)]; simp, by simp [intVs, h1]⟩, ?_⟩))
      unfold cellAt at hq
      rw [if_pos h1] at hq; exact hq
    · have h1 := of_decide_eq_false h1
      rw [el] at h1
      have h1 : ¬ k < sc.length := by exact ar226 h1
      refine E_sub (E_gl hc (cellsFact H) (E_var hc (u := .int (k : Int)) hG ⟨_, item_dflt hk, ?_⟩))
      unfold cellAt at hq
      rw [if_neg h1] at hq; exact hq
  intro vs ρ' σ₁ _ l₁ hlen hvs cb hcb
  have e0 : (natVs (List.range 6)).filter (fun _ => true) = natVs (List.range 6) := List.filter_eq_self.mpr fun _ _ => rfl
  rw [e0] at hlen hvs
  have ev : vs = intVs (cellsV sc) := by
    apply List.ext_getElem?
    intro k
    by_cases hk : k < 6
    · obtain ⟨v, h1, j, h2, h3⟩ := hvs k (.int (k : Int)) (by simp [natVs, hk])
      have : j = k := by injection h2 with h2; exact ar82 h2
      subst this
      rw [h1, h3]
      simp [intVs, cellsV, hk]
    · rw [List.getElem?_eq_none (by rw [hlen]; simp [natVs]; exact ar227 hk), List.getElem?_eq_none (by simp [intVs, cellsV]; exact ar227 hk)]
  rw [List.nil_append, ev]
  clear hvs hlen ev e0 vs
  have l₁' : σ.Le (σ₁.put cb (.list (intVs (cellsV sc)))) := l₁.trans (St.Le.put hcb)
  have e₁ : (σ₁.put cb (.list (intVs (cellsV sc)))) cb = some (.list (intVs (cellsV sc))) := St.put_self ..
  generalize σ₁.put cb (.list (intVs (cellsV sc))) = σ₂ at l₁' e₁ ⊢
  refine T_var he ?_
  intro ρ
  -- many
  obtain ⟨i, hi, ei⟩ := fmod_lt (cellAt sc 0) (k := 2) (by decide)
  refine XS_cons (X_assign (E_binop (E_int (E_binop (E_sub (E_var he (u := .val (.ref cb)) rfl (E_int ⟨_, item_cellsV (k := 0) e₁ (by exact ar228), E_int (O2_mod (by exact ar104) (O2_add (T_var he ?_)))⟩)))))))
  have em : (2 : Int) + (cellAt sc 0).fmod 2 = ((2 + i : Nat) : Int) := by
    have : (cellAt sc 0).fmod ((2 : Nat) : Int) = (cellAt sc 0).fmod 2 := rfl
    rw [← this, ei]; exact ar229
  rw [em]
  obtain ⟨m, hm, hmi⟩ : ∃ m : Nat, (m = 2 ∨ m = 3) ∧ m = 2 + i := ⟨2 + i, by exact ar230 hi, rfl⟩
  rw [← hmi]
  intro ρ
  -- lots
  refine XS_cons (X_assign (E_binop (E_list (E_fcall he (globFact H (k := 16) (by rfl) (by rfl)) (F_law_lot H).keeps ?_))))
  refine E_sub (E_var he (u := .val (.ref cb)) rfl (E_int ⟨_, item_cellsV (k := 1) e₁ (by exact ar231), E_int (E_int ?_)⟩))
  refine CallK.v (law_lot_ok H (many := 5) (by exact Nat.le_refl _) (by exact ar233) fun b0 σ₃ hb0 l₃ e₃ => ⟨by simp, fun f0 hf0 => ?_⟩)
  have l₃' : σ₂.Le (σ₃.put f0 (.list [.val (.ref b0)])) := l₃.trans (St.Le.put hf0)
  have e₃' : (σ₃.put f0 (.list [.val (.ref b0)])) b0 = some (.list (intVs (lotAt sc m 0))) := St.Le.put hf0 _ _ e₃
  have f₃ : (σ₃.put f0 (.list [.val (.ref b0)])) f0 = some (.list [.val (.ref b0)]) := St.put_self ..
  generalize σ₃.put f0 (.list [.val (.ref b0)]) = σ₄ at l₃' e₃' f₃ ⊢
  have e₄ := l₃' _ _ e₁
  refine E_comp1 (sck he) (E_fcall he (bltFact H (k := 3) (by rfl) (by rfl)) (keeps_type _ _) (E_var he (u := .int (m : Int)) rfl (C_range1 ⟨natVs (List.range m), fun cenv hc => ?_⟩)))
  have hc := relabel_S he hc
  refine CL_pure (src := .rng 0 (m : Int) 1) (all := natVs (List.range m)) (σ₀ := σ₄) (p := fun _ => true) (F := fun x v σ' => ∃ (k : Nat) (z : Addr), x = .int (k : Int) ∧ v = .val (.ref z) ∧ σ' z = some (.list (intVs (lotAt sc m (k + 1))))) (fun ρ => ρ "cells" = some (.val (.ref cb)) ∧ ρ "many" = some (.int (m : Int))) (fun x ρ => ρ "k" = some x)
    (fun σ' l => by rw [← steps01]; exact rng_iter (by exact ar234 hi hmi)) (fun x v σ' σ'' ⟨k, z, h1, h2, h3⟩ l => ⟨k, z, h1, h2, l _ _ h3⟩) _ ?_ ?_ ?_ [] _ σ₄ ⟨by rfl, by rfl⟩ (.refl _) (by simp [natVs]; exact ar235 hi hmi) ?_
  · intro x hx ρ σ' R hJ hl hR
    exact T_var hc (hR _ ⟨by rw [upd_ne (by decide)]; exact hJ.1, by rw [upd_ne (by decide)]; exact hJ.2⟩ (upd_self ..)) (fun h => by cases h)
  · intro x hx ρ σ' B hJ hG hl hB
    exact hB σ' (.refl _)
  · intro x hxm ρ σ' Q hJ hG _ hl hQ
    obtain ⟨k, hk, rfl⟩ := List.mem_map.mp hxm
    have hk := List.mem_range.mp hk
    refine E_fcall hc (globFact H (k := 16) (by rfl) (by rfl)) (F_law_lot H).keeps (E_sub (E_var hc (u := .val (.ref cb)) hJ.1 (E_binop (E_int (E_var hc (u := .int (k : Int)) hG (O2_add ?_))))))
    rw [show (2 : Int) + (k : Int) = ((k + 2 : Nat) : Int) from by exact ar236]
    refine ⟨_, item_cellsV (hl _ _ e₄) (by exact ar237 hi hmi hk), E_unary (E_int (O1_neg (E_binop (E_int (E_var hc (u := .int (m : Int)) hJ.2 (O2_sub ?_))))))⟩
    rw [show (5 : Int) - (m : Int) = ((5 - m : Nat) : Int) from by exact ar238 hi hmi]
    refine CallK.v (law_lot_ok H (many := 5 - m) (by exact ar239) (by exact ar240 hi hmi) fun z σ'' hz' l e => hQ _ _ l ⟨k, z, rfl, rfl, ?_⟩)
    rw [e]
    unfold lotAt
    rw [if_neg (by exact ar241)]
  intro vs ρ' σ₅ _ l₅ hlen hvs vb hvb
  have e0 : (natVs (List.range m)).filter (fun _ => true) = natVs (List.range m) := List.filter_eq_self.mpr fun _ _ => rfl
  rw [e0] at hlen hvs
  have hl : vs.length = m := by rw [hlen]; simp [natVs]
  have hv : ∀ k, k < m → ∃ z, vs[k]? = some (.val (.ref z)) ∧ σ₅ z = some (.list (intVs (lotAt sc m (k + 1)))) := fun k hk => by
    obtain ⟨v, e1, j, z, e2, e3, e4⟩ := hvs k (.int (k : Int)) (by simp [natVs, hk])
    have : j = k := by injection e2 with e2; exact ar82 e2
    subst this
    exact ⟨z, by rw [e1, e3], e4⟩
  rw [List.nil_append]
  have l₆ : σ₅.Le (σ₅.put vb (.list vs)) := St.Le.put hvb
  have f₆ : (σ₅.put vb (.list vs)) vb = some (.list vs) := St.put_self ..
  generalize σ₅.put vb (.list vs) = σ₆ at l₆ f₆ ⊢
  refine O2_addL (l₆ _ _ (l₅ _ _ f₃)) f₆ (by simp; exact ar242 hi hmi hl) fun lb hlb => ?_
  have l₇ : σ₆.Le (σ₆.put lb (.list ([.val (.ref b0)] ++ vs))) := St.Le.put hlb
  have f₇ : (σ₆.put lb (.list ([.val (.ref b0)] ++ vs))) lb = some (.list ([.val (.ref b0)] ++ vs)) := St.put_self ..
  generalize σ₆.put lb (.list ([.val (.ref b0)] ++ vs)) = σ₇ at l₇ f₇ ⊢
  refine T_var he ?_
  intro ρ
  have l47 := (l₅.trans l₆).trans l₇
  refine XS_cons (X_expr (E_method (E_var he (u := .val (.ref lb)) rfl ⟨_, _, G_list f₇ PySem.F.slot_list_append (ty_md _), keeps_builtin _ _, ?_⟩)))
  refine E_fcall he (globFact H (k := 16) (by rfl) (by rfl)) (F_law_lot H).keeps (E_sub (E_var he (u := .val (.ref cb)) rfl (E_binop (E_int (E_var he (u := .int (m : Int)) rfl (O2_add ?_))))))
  rw [show (2 : Int) + (m : Int) = ((m + 2 : Nat) : Int) from by exact ar236]
  refine ⟨_, item_cellsV (l47 _ _ e₄) (by exact ar243 hi hmi), E_unary (E_int (O1_neg (E_binop (E_int (E_var he (u := .int (m : Int)) rfl (O2_sub ?_))))))⟩
  rw [show (5 : Int) - (m : Int) = ((5 - m : Nat) : Int) from by exact ar238 hi hmi]
  refine CallK.v (law_lot_ok H (many := 5 - m) (by exact ar239) (by exact ar240 hi hmi) fun zl σ₈ hzl l₈ e₈ => ?_)
  have f₈ := l₈ _ _ f₇
  refine L_append f₈ (by simp; exact ar244 hi hmi hl) ?_
  -- the list of lots
  obtain ⟨as, eas, hasl, hasc⟩ : ∃ as : List Addr, [V.val (.ref b0)] ++ vs ++ [.val (.ref zl)] = (as.map fun z => V.val (.ref z)) ∧ as.length = m + 2 ∧ ∀ (x : Nat) (z : Addr), as[x]? = some z → σ₈ z = some (.list (intVs (lotAt sc m x))) := by
    refine ⟨b0 :: (vs.map addrOf) ++ [zl], ?_, by simp [hl], fun x z hx => ?_⟩
    · have ev : vs = (vs.map addrOf).map fun q => V.val (.ref q) := by
        apply List.ext_getElem?
        intro i
        by_cases hi : i < m
        · obtain ⟨q, e, _⟩ := hv i hi
          rw [List.map_map, List.getElem?_map, e]; rfl
        · rw [List.getElem?_eq_none (by exact ar3 hl hi), List.getElem?_eq_none (by simp; exact ar3 hl hi)]
      conv => lhs; rw [ev]
      simp
    · cases x with
      | zero =>
        simp at hx
        subst hx
        exact l₈ _ _ (l47 _ _ e₃')
      | succ x =>
        by_cases hxm : x < m
        · obtain ⟨z', e, e'⟩ := hv x hxm
          rw [List.cons_append, List.getElem?_cons_succ, List.getElem?_append_left (by simp; exact ar195 hl hxm), List.getElem?_map, e] at hx
          have : z' = z := by simpa [addrOf] using hx
          subst this
          exact l₈ _ _ (l₇ _ _ (l₆ _ _ e'))
        · have hxm : x = m := by
            rcases Nat.lt_or_ge x (m + 1) with h | h
            · exact ar245 hxm h
            · rw [List.getElem?_eq_none (by simp; exact ar246 hl h)] at hx; cases hx
          subst hxm
          rw [List.cons_append, List.getElem?_cons_succ, List.getElem?_append_right (by simp; exact ar247 hl)] at hx
          have : zl = z := by simpa [hl] using hx
          subst this
          rw [e₈]
          unfold lotAt
          rw [if_neg (by exact ar241)]
  rw [eas]
  have hne : ∀ (x : Nat) (z : Addr), as[x]? = some z → z ≠ lb := fun x z hx => by
    rintro rfl
    have := hasc x z hx
    rw [f₈] at this
    injection this with this
    injection this with this
    cases hq : lotAt sc m x with
    | nil => rw [hq] at this; simp [intVs] at this
    | cons v l => rw [hq] at this; simp [intVs] at this
  have hLL : LL (σ₈.put lb (.list (as.map fun z => V.val (.ref z)))) lb (lotsV sc m) := ⟨as, St.put_self .., by rw [hasl, lotsV_len], fun x z l e e' => by
    have hx : x < m + 2 := by
      rcases Nat.lt_or_ge x as.length with h | h
      · exact ar205 hasl h
      · rw [List.getElem?_eq_none h] at e; cases e
    have : l = lotAt sc m x := by simpa [lotsV, hx] using e'.symm
    rw [St.put_ne (hne x z e), this]
    exact hasc x z e⟩
  generalize σ₈.put lb (.list (as.map fun z => V.val (.ref z))) = σ₉ at hLL ⊢
  clear hasc hne f₈ e₈ hzl
  -- the store
  obtain ⟨K, X, _, _, hkS, _, _⟩ := clsS H
  refine XS_cons (X_assign (E_fcall he (globFact H (k := 31) (by rfl) (by rfl)) (keeps_cls X hkS) (store_new H fun a c σ₁₀ A₀ hown l₁₀ => T_var he ?_)))
  intro ρ
  have hno : ∀ z o, σ₉ z = some o → z ∉ own a c := fun z o e q => by rw [hown z q] at e; cases e
  have hLLO : LLO σ₁₀ a c lb (lotsV sc m) := by
    obtain ⟨as', k1, k2, k3⟩ := hLL.at'
    refine ⟨⟨as', l₁₀ _ _ k1, k2, fun x z l e e' => l₁₀ _ _ (k3 x z l e e'), fun z hz => ?_⟩, hno _ _ k1⟩
    obtain ⟨x, hx⟩ := List.mem_iff_getElem?.mp hz
    have hx' : x < (lotsV sc m).length := by
      rcases Nat.lt_or_ge x as'.length with q | q
      · exact ar155 k2 q
      · rw [List.getElem?_eq_none q] at hx; cases hx
    exact hno _ _ (k3 x z _ hx (List.getElem?_eq_getElem hx'))
  have hlotl := lotsV_len sc m
  have hlots : ∀ l ∈ lotsV sc m, Can (ranges l) ∧ valsD (ranges l) = l ∧ ranges l ≠ [] ∧ l.length ≤ 5 := fun l hl => lots_ok sc hm hl
  -- the variables
  refine XS_cons (X_comp1 (sck he) (by rw [swaps_env (env' := envS _) he]; rfl) (kd he) (E_var he (u := .val (.ref lb)) rfl ?_))
  obtain ⟨bs, k1, k2, k3, k4⟩ := hLLO.at'
  refine ⟨bs.map fun z => V.val (.ref z), fun cenv hc => ?_⟩
  have hc := relabel_S he hc
  refine CL_ind P1_mono (fun xs acc ρ' σ' => ∃ k : Nat, k ≤ m + 2 ∧ xs = (bs.drop k).map (fun z => V.val (.ref z)) ∧ acc = natVs (List.range k) ∧ SA σ' a c (startS ((lotsV sc m).take k)) ∧ Fr a c σ₁₀ c σ' ∧ ρ' "store" = some (.val (.ref a))) ?_ ?_ _ _ _ _ ⟨0, by exact Nat.zero_le _, rfl, rfl, A₀, Fr.le (.refl _), by rfl⟩
  · rintro acc ρ' σ' ⟨k, hk, ex, rfl, A', fr', es⟩
    have hk' : k = m + 2 := by
      have := congrArg List.length ex
      simp at this
      exact ar249 hlotl k2 hk this
    subst hk'
    have A' : SA σ' a c (startS (lotsV sc m)) := by
      have : (lotsV sc m).take (m + 2) = lotsV sc m := List.take_of_length_le (by exact ar250 hlotl)
      rw [this] at A'; exact A'
    refine ⟨.of (fr' _ _ hLLO.nb k1).1, fun sb hsb => ?_⟩
    clear ex es
    have l₁₁ : σ'.Le (σ'.put sb (.list (natVs (scopeL m)))) := St.Le.put hsb
    have e₁₁ : (σ'.put sb (.list (natVs (scopeL m)))) sb = some (.list (natVs (scopeL m))) := St.put_self ..
    show XS y (n + 8) env _ _ _ (σ'.put sb (.list (natVs (scopeL m)))) _
    have hso := own_fresh A' hsb
    have A₁₁ := A'.le l₁₁
    have hL₁₁ := (hLLO.fr fr').fr (Fr.le (c := c) (a := a) l₁₁)
    generalize σ'.put sb (.list (natVs (scopeL m))) = σ₁₁ at l₁₁ e₁₁ A₁₁ hL₁₁ ⊢
    have O := start_ok sc hm
    have hfew := start_few sc hm
    have hans := answers_mem sc hm
    generalize hS0 : startS (lotsV sc m) = S0 at A₁₁ O hfew hans
    have hfl : S0.failed = false := by rw [← hS0]; rfl
    have hms : S0.marks = [] := by rw [← hS0]; rfl
    -- the rule
    have hsl : scopeL m = List.range (m + 1) ++ [m + 1] := List.range_succ
    have hi0 : ∀ {σ' : St}, σ' sb = some (.list (natVs (scopeL m))) → Item y σ' (.val (.ref sb)) (.int 0) (.int ((0 : Nat) : Int)) := fun {σ'} e => by
      have := item_nats (y := y) e (i := 0) (by simp [scopeL]) (by simp [scopeL]; exact ar251 hi hmi)
      have e0 : (scopeL m).getD 0 0 = 0 := by simp [scopeL]
      rw [e0] at this; exact this
    have hi1 : ∀ {σ' : St}, σ' sb = some (.list (natVs (scopeL m))) → Item y σ' (.val (.ref sb)) (.int (-1)) (.int ((m + 1 : Nat) : Int)) := fun {σ'} e => by
      rw [hsl] at e
      exact item_natsL e (by simp; exact ar252 hi hmi)
    have hscl : (natVs (scopeL m)).length ≤ 1000 := by simp [natVs, scopeL]; exact ar253 hi hmi
    obtain ⟨KE, XE, _, _, hkE, _⟩ := clsE H
    refine XS_cons (X_assign (E_fcall he (globFact H (k := 32) (by rfl) (by rfl)) (keeps_cls XE hkE) (E_sub (E_var he (u := .val (.ref sb)) rfl (E_int ⟨_, hi0 e₁₁, ?_⟩)))))
    refine E_fcall he (bltFact H (k := 4) (by rfl) (by rfl)) (keeps_type _ _) (E_slice (E_var he (u := .val (.ref sb)) rfl (E_int ⟨_, rfl, E_unary (E_int (O1_neg ⟨_, rfl, _, _, rfl, .of e₁₁, by exact ar8 hscl, fun s1 hs1 => ?_⟩))⟩)))
    rw [pick_mid hm]
    have l₁₂ : σ₁₁.Le (σ₁₁.put s1 (.list (natVs (cellsL m)))) := St.Le.put hs1
    have f₁₂ : (σ₁₁.put s1 (.list (natVs (cellsL m)))) s1 = some (.list (natVs (cellsL m))) := St.put_self ..
    generalize σ₁₁.put s1 (.list (natVs (cellsL m))) = σ₁₂ at l₁₂ f₁₂ ⊢
    refine C_tuple_list (.of f₁₂) (by simp [natVs, cellsL]; exact ar235 hi hmi) (E_sub (E_var he (u := .val (.ref sb)) rfl (E_unary (E_int (O1_neg ⟨_, hi1 (l₁₂ _ _ e₁₁), ?_⟩)))))
    refine elem_new H hS (by exact ar254 hi hmi) fun e d σ₁₃ Ee₀ fe fd l₁₃ => T_var he ?_
    intro ρ
    have A₁₂ := A₁₁.le l₁₂
    have Ee : EA' σ₁₃ e d m a c := ⟨Ee₀, own_fresh A₁₂ fe, own_fresh A₁₂ fd⟩
    have l13 := l₁₂.trans l₁₃
    have A₁₃ := A₁₁.le l13
    have e₁₃ := l13 _ _ e₁₁
    have hL₁₃ := (hL₁₁.fr (Fr.le (c := c) (a := a) l13)).ll
    have nse : sb ≠ e := by rintro rfl; rw [l₁₂ _ _ e₁₁] at fe; cases fe
    clear l₁₂ f₁₂ fe fd l₁₃ l13 A₁₂ hL₁₁ A₁₁ e₁₁ Ee₀
    -- the answers
    have h6 : ∀ l ∈ lotsV sc m, l.length ≤ 6 := fun l hl => by have := (hlots l hl).2.2.2; exact ar255 this
    have hlen : (pointsL (lotsV sc m)).length ≤ 7776 := by
      have := points_len (lotsV sc m) [[]] h6
      have h5 : 6 ^ (lotsV sc m).length ≤ 6 ^ 5 := Nat.pow_le_pow_right (by exact ar132) (by exact ar256 hi hmi hlotl)
      simp only [List.length_singleton, Nat.one_mul] at this
      exact Nat.le_trans this h5
    have hpl : ∀ p ∈ pointsL (lotsV sc m), p.length = m + 2 := fun p hp => by
      rw [(points_mem.mp hp).1, hlotl]
    refine XS_cons (X_comp1 (sck he) (by rw [swaps_env (env' := envS _) he]; rfl) (kd he) (E_fcall he (globFact H (k := 21) (by rfl) (by rfl)) (F_law_points H).keeps (E_var he (u := .val (.ref lb)) rfl ?_)))
    refine CallK.v (law_points_ok H hL₁₃ (by exact ar256 hi hmi hlotl) h6 fun pb σ₁₄ hpb l₁₄ e₁₄ => ⟨ptVs (pointsL (lotsV sc m)), fun cenv hc => ?_⟩)
    have hc := relabel_S he hc
    refine CL_pure (src := .val (.ref pb)) (all := ptVs (pointsL (lotsV sc m))) (σ₀ := σ₁₄) (p := onV ptv isAns) (F := fun x v _ => v = x) (fun ρ => True) (fun x ρ => ρ "point" = some x) (fun σ' l => .of (l _ _ e₁₄)) (fun x v σ' σ'' h _ => h) _ ?_ ?_ ?_ [] _ σ₁₄ trivial (.refl _) (by simp [ptVs]; exact ar182 hlen) ?_
    · intro x hx ρ σ' R hJ hl hR
      exact T_var hc (hR _ trivial (upd_self ..)) (fun h => by cases h)
    · intro x hxm ρ σ' B hJ hG hl hB
      obtain ⟨p, hpm, rfl⟩ := List.mem_map.mp hxm
      have hpl := hpl p hpm
      rw [onV_eq (fun a b => ptv_inj)] at hB
      refine B_val (E_fcall hc (globFact H (k := 20) (by rfl) (by rfl)) (F_law_is_answer H).keeps (E_var hc (u := ptv p) hG (CallK.v (law_is_answer_ok H (by exact ar257 hi hmi hpl) (by exact ar192 hpl) ⟨_, rfl, ?_⟩))))
      have := hB σ' (.refl _)
      cases hs : isAns p <;> rw [hs] at this <;> exact this
    · intro x hxm ρ σ' Q hJ hG _ hl hQ
      exact E_var hc hG (hQ x σ' (.refl _) rfl)
    intro vs ρ'' σ₁₅ _ l₁₅ hln hvs q hq
    have ev := all_same (F := fun x v _ => v = x) (σ' := σ₁₅) (fun _ _ h => h) hln hvs
    have ef : (ptVs (pointsL (lotsV sc m))).filter (onV ptv isAns) = ptVs ((pointsL (lotsV sc m)).filter isAns) := filter_vals fun a => onV_eq (fun a b => ptv_inj) a
    rw [ef] at ev
    rw [List.nil_append, ev]
    clear hln hvs ev ef vs
    have hPl : ((pointsL (lotsV sc m)).filter isAns).length ≤ 7776 := Nat.le_trans (List.length_filter_le ..) hlen
    generalize (pointsL (lotsV sc m)).filter isAns = P at hans hPl ⊢
    have l15 := (l₁₄.trans l₁₅).trans (St.Le.put (x := .list (ptVs P)) hq)
    have hq' := (l₁₄.trans l₁₅).none hq
    have e₁₅ : (σ₁₅.put q (.list (ptVs P))) q = some (.list (ptVs P)) := St.put_self ..
    generalize σ₁₅.put q (.list (ptVs P)) = σ₁₆ at l15 e₁₅ ⊢
    have A₁₆ := A₁₃.le l15
    have Ee₁₆ := Ee.le l15
    have s₁₆ := l15 _ _ e₁₃
    have hL₁₆ := hL₁₃.le l15
    have hqo := own_fresh A₁₃ hq'
    have nqs : q ≠ sb := by rintro rfl; rw [e₁₃] at hq'; cases hq'
    have nqe : q ≠ e := by rintro rfl; rw [Ee.inst] at hq'; cases hq'
    have nqd : q ≠ d := by rintro rfl; rw [Ee.att] at hq'; cases hq'
    -- told
    refine XS_cons (X_if (B_boolop ?_))
    refine B_compare (E_emeth H (E_var he (u := .val (.ref e)) rfl ⟨rfl, Ee₁₆.toEA, ?_⟩) (F_e_told H).keeps)
    refine CallK.v (e_told_ok H Ee₁₆.toEA (E_tuple (E_str (E_sub (E_var he (u := .val (.ref sb)) rfl (E_int ⟨_, hi0 s₁₆, ?_⟩))))))
    refine E_fcall he (bltFact H (k := 4) (by rfl) (by rfl)) (keeps_type _ _) (E_slice (E_var he (u := .val (.ref sb)) rfl (E_int ⟨_, rfl, E_unary (E_int (O1_neg ⟨_, rfl, _, _, rfl, .of s₁₆, by exact ar8 hscl, fun s1 hs1 => ?_⟩))⟩)))
    rw [pick_mid hm]
    have l₁₇ : σ₁₆.Le (σ₁₆.put s1 (.list (natVs (cellsL m)))) := St.Le.put hs1
    have f₁₇ : (σ₁₆.put s1 (.list (natVs (cellsL m)))) s1 = some (.list (natVs (cellsL m))) := St.put_self ..
    generalize σ₁₆.put s1 (.list (natVs (cellsL m))) = σ₁₇ at l₁₇ f₁₇ ⊢
    refine C_tuple_list (.of f₁₇) (by simp [natVs, cellsL]; exact ar235 hi hmi) (E_sub (E_var he (u := .val (.ref sb)) rfl (E_unary (E_int (O1_neg ⟨_, hi1 (l₁₇ _ _ s₁₆), by simp, ?_⟩)))))
    have rdT : Rd y σ₁₇ (.tup [.str "element", .int ((0 : Nat) : Int), .tup (natVs (cellsL m)), .int ((m + 1 : Nat) : Int)]) (.tuple [.str "element", .int ((0 : Nat) : Int), .tuple ((cellsL m).map fun (i : Nat) => Dat.int i), .int ((m + 1 : Nat) : Int)]) :=
      .tup (.cons (.str _) (.cons (.int _) (.cons (.tup (rdl_nats y _ _)) (.cons (.int _) .nil))))
    have okT : kqdOk 9 (.tuple [.str "element", .int ((0 : Nat) : Int), .tuple ((cellsL m).map fun (i : Nat) => Dat.int i), .int ((m + 1 : Nat) : Int)]) = true := by
      rcases hm with rfl | rfl <;> kernel_rfl
    refine O2_ne rdT rdT okT okT fun cc hcc => ⟨cc, rfl, ?_⟩
    have : cc = false := by
      cases cc with
      | false => rfl
      | true => exact absurd rfl (hcc.mp rfl)
    subst this
    show BAll _ _ _ _ _ _ _ _
    have s₁₇ := l₁₇ _ _ s₁₆
    refine B_compare (E_fcall he (bltFact H (k := 4) (by rfl) (by rfl)) (keeps_type _ _) (E_eattr H (u := .tup (natVs (scopeL m))) (E_var he (u := .val (.ref e)) rfl ⟨rfl, (Ee₁₆.le l₁₇).toEA, C_tuple_tup ?_⟩) rfl))
    refine E_fcall he (bltFact H (k := 4) (by rfl) (by rfl)) (keeps_type _ _) (E_var he (u := .val (.ref sb)) rfl (C_tuple_list (.of s₁₇) (by exact ar8 hscl) ?_))
    have rdS : Rd y σ₁₇ (.tup (natVs (scopeL m))) (.tuple ((scopeL m).map fun (i : Nat) => Dat.int i)) := .tup (rdl_nats y _ _)
    have okS : kqdOk 9 (.tuple ((scopeL m).map fun (i : Nat) => Dat.int i)) = true := by
      rcases hm with rfl | rfl <;> kernel_rfl
    refine O2_ne rdS rdS okS okS fun cc hcc => ⟨cc, rfl, ?_⟩
    have : cc = false := by
      cases cc with
      | false => rfl
      | true => exact absurd rfl (hcc.mp rfl)
    subst this
    show KIf _ _ _ _ _ _ _ _ _ _
    refine ⟨fun q => (by cases q), fun _ => XS_nil ?_⟩
    -- checked, asked
    refine XS_cons (X_if (B_boolop ?_))
    refine B_not (B_val (E_fcall he (globFact H (k := 27) (by rfl) (by rfl)) (F_law_checked_right H).keeps (E_var he (u := .val (.ref e)) rfl (E_var he (u := .val (.ref lb)) rfl ?_))))
    refine CallK.v (law_checked_right_ok H (Ee₁₆.le l₁₇).toEA (hL₁₆.le l₁₇) hlotl (by exact ar258 hi hmi) h6 fun σ₁₈ l₁₈ => ⟨_, rfl, ?_⟩)
    show BAll _ _ _ _ _ _ _ _
    have l18 := l₁₇.trans l₁₈
    have A₁₈ := A₁₆.le l18
    have E₁₈ := Ee₁₆.le l18
    have s₁₈ := l18 _ _ s₁₆
    have q₁₈ := l18 _ _ e₁₅
    refine B_not (B_val (E_fcall he (globFact H (k := 26) (by rfl) (by rfl)) (F_law_asked_right H).keeps (E_var he (u := .val (.ref a)) rfl (E_var he (u := .val (.ref e)) rfl (E_var he (u := .val (.ref q)) rfl ?_)))))
    refine CallK.v (law_asked_right_ok H A₁₈ E₁₈ O hfl hfew hans q₁₈ hqo (by exact ar188 hPl) fun σ₁₉ S₁ b₁ D => ⟨_, rfl, ?_⟩)
    show KIf _ _ _ _ _ _ _ _ _ _
    refine ⟨fun q => (by cases q), fun _ => XS_nil ?_⟩
    have ef₁ := (Res.okS D.res O).2.1
    have em₁ := (Res.okS D.res O).2.2
    have hlev := Res.lev D.res O (.nil (m := m) (F := S0.firsts))
    refine XS_cons (X_if (B_val (E_sattr H (u := .val (.bool S₁.failed)) (E_var he (u := .val (.ref a)) rfl ⟨rfl, D.A, _, rfl, fun _ => XS_cons (X_ret (E_bool (h _))), fun hf => XS_nil ?_⟩) rfl)))
    refine XS_cons (X_assign (E_list ⟨by simp, fun kb hkb => T_var he ?_⟩))
    intro ρ
    have l₂₀ : σ₁₉.Le (σ₁₉.put kb (.list [])) := St.Le.put hkb
    have k₂₀ : (σ₁₉.put kb (.list [])) kb = some (.list []) := St.put_self ..
    generalize σ₁₉.put kb (.list []) = σ₂₀ at l₂₀ k₂₀ ⊢
    refine XS_cons (X_for (E_slice (E_var he (u := .val (.ref sa)) rfl (E_int ⟨_, rfl, E_int ⟨_, rfl, _, _, rfl, hs _, by simp [intVs]; exact ar8 hz, fun nb hnb => ?_⟩⟩))))
    have epk : pick (intVs sc) (some 6) (some 14) = intVs (pick sc (some 6) (some 14)) := pick_map V.int sc _ _
    rw [epk]
    have hnl := pick_6_14 sc
    generalize pick sc (some 6) (some 14) = nums at hnl ⊢
    have l₂₁ : σ₂₀.Le (σ₂₀.put nb (.list (intVs nums))) := St.Le.put hnb
    have n₂₁ : (σ₂₀.put nb (.list (intVs nums))) nb = some (.list (intVs nums)) := St.put_self ..
    generalize σ₂₀.put nb (.list (intVs nums)) = σ₂₁ at l₂₁ n₂₁ ⊢
    have fr₂₁ : Fr a c σ₁₈ c σ₂₁ := (D.fr.trans (Fr.le l₂₀)).trans (Fr.le l₂₁)
    have Fp₀ : Fp m P a e d q sb kb nb nums c [] [] σ₂₁ :=
      { Ee := E₁₈.fr fr₂₁, hq := (fr₂₁ _ _ hqo q₁₈).1, qo := hqo, hs := (fr₂₁ _ _ hso s₁₈).1, so := hso, hn := n₂₁, no := own_fresh D.A (l₂₀.none hnb), hk := l₂₁ _ _ k₂₀, ko := own_fresh D.A hkb
        ek := fun q => by rw [← q, ((D.fr _ _ E₁₈.ne E₁₈.inst)).1] at hkb; cases hkb
        dk := fun q => by rw [← q, ((D.fr _ _ E₁₈.nd E₁₈.att)).1] at hkb; cases hkb
        qk := fun q => by rw [← q, ((D.fr _ _ hqo q₁₈)).1] at hkb; cases hkb
        sk := fun q => by rw [← q, ((D.fr _ _ hso s₁₈)).1] at hkb; cases hkb
        nk := fun q => by rw [q, k₂₀] at hnb; cases hnb
        zl := rfl, zz := fun i z L e => by simp at e }
    refine ⟨intVs nums, ?_⟩
    have A₂₁ := (D.A.le l₂₀).le l₂₁
    have O₁ := D.ok
    have hfew' : ∀ {S : SS}, S.firsts = S0.firsts → ∀ x, 1 ≤ x → x < m + 2 → ∀ v ∈ valsD (fS S x), v = -1 ∨ v = 0 ∨ v = 1 := fun {S} e x h1 h2 v hv => hfew x h1 h2 v (by unfold fS at hv ⊢; rw [e] at hv; exact hv)
    have hlev₁ : Lev m S0.firsts S₁.doms S₁.trail S₁.marks [] := by rw [em₁, hms]; exact .nil
    have LI₀ : LI m P a e d q sb kb nb nums S0.firsts 0 σ₂₁ := ⟨c, S₁, [], [], A₂₁, O₁, hf, ef₁, hlev₁, Nat.le_refl _, Fp₀⟩
    clear Fp₀ A₂₁ O₁ hlev₁ hf ef₁ em₁ hlev D
    refine FL_ind (fun xs ρ σ' => ∃ (k : Nat) (rest : List Int), xs = intVs rest ∧ k + rest.length ≤ 8 ∧ LI m P a e d q sb kb nb nums S0.firsts k σ' ∧ LE a e q sb kb ρ) ?_ ?_ _ _ _ ⟨0, nums, rfl, by exact ar259 hnl, LI₀, by rfl, by rfl, by rfl, by rfl, by rfl⟩
    · rintro ρ σ' ⟨k, rest, ex, hk, ⟨c', S', zs, ks, A', O', hf', ef', hl', hkl, F'⟩, hE⟩
      exact ⟨.of (by
        have : σ' nb = some (.list (intVs nums)) := F'.hn
        exact this), XS_cons (X_ret (E_bool (h _)))⟩
    rintro x xs ρ σ' ⟨k, rest, ex, hk, ⟨c', S', zs, ks, A', O', hf', ef', hl', hkl, F'⟩, ⟨es, er, ea, ec, ek⟩⟩
    cases rest with
    | nil => cases ex
    | cons num rest =>
    cases ex
    rw [List.length_cons] at hk
    have hw := O'.w
    have hnw := O'.nw
    have hml := hl'.len
    have hdl := O'.dl
    have hfl' := O'.fl
    refine ⟨.of F'.hn, T_var he ?_⟩
    intro ρ
    refine XS_cons (X_assign (E_binop (E_var he (u := .int num) rfl (E_int (O2_fdiv (by exact ar260) (pyl (by exact ar261)) (T_var he ?_))))))
    refine XS_cons (X_if (B_compare (E_binop (E_var he (u := .int num) rfl (E_int (O2_mod (by exact ar260) (E_int (O2_eqi ⟨_, rfl, fun h5 => ?_, fun h5 => XS_nil ?_⟩))))))))
    · -- a level is taken back
      clear h5
      refine XS_cons (EX.mono (Q := fun g ρ' σ'' => g = .next ∧ LE a e q sb kb ρ' ∧ LI m P a e d q sb kb nb nums S0.firsts k σ'') (X_if (B_compare (E_var he (u := .val (.ref kb)) (by exact ek) (E_list ⟨by simp, fun b5 hb5 => ?_⟩)))) ?_)
      · have l5 : σ'.Le (σ'.put b5 (.list [])) := St.Le.put hb5
        have A₅ := A'.le l5
        have F₅ := F'.fr (Fr.le (a := a) (c := c') l5)
        have rk := rdl_kept (y := y) zs (ks.map fun D => D.map valsD) F₅.zl fun i z L e e' => (F₅.zz i z L e e').llo.ll
        refine O2_ne (.list (.of F₅.hk) rk) (.list (.of (St.put_self ..)) .nil) (okK _) rfl fun cc hcc => ⟨cc, rfl, fun hc => ?_, fun hc => XS_nil ⟨rfl, ⟨by exact es, by exact er, by exact ea, by exact ec, by exact ek⟩, ⟨c', S', zs, ks, A₅, O', hf', ef', hl', hkl, F₅⟩⟩⟩
        generalize σ'.put b5 (.list []) = σ₅ at l5 A₅ F₅ rk ⊢
        have hkne : ks ≠ [] := by
          rintro rfl
          exact hcc.mp hc rfl
        obtain ⟨D, t₀, u, ms₀, ks₀, k1, k2, k3, k4, k5, k6, k7, k8⟩ := hl'.last hkne
        subst k1
        obtain ⟨zs₀, z, ez, hzl⟩ := last_of (l := zs) (n := ks₀.length) (by have := F₅.zl; simpa using this)
        subst ez
        refine XS_cons (X_expr (E_smeth H (E_var he (u := .val (.ref a)) (by exact es) ⟨rfl, A₅, E_int ?_⟩) (F_s_pop H).keeps))
        refine CallK.v (s_pop_ok H A₅ k2 k3 (by exact ar42 hdl) (by exact ar42 hfl') (by exact ar68 hw) (by exact ar262 hk hkl hml) (fun e he => by have := k7 e he; have := O'.ld; exact ar263 (by assumption) this) fun c₆ σ₆ A₆ fr₆ => ?_)
        have hnot : decide ([] ∈ S'.firsts) = false := decide_eq_false fun q => (O'.canf _ q).2 rfl
        rw [hnot] at A₆
        have O₆ : OKS m ⟨undo S'.doms u, S'.firsts, t₀, ms₀, false, [], 0⟩ := ⟨by rw [k6, ef']; exact k5, Nat.zero_le _⟩
        have F₆ := F₅.fr fr₆
        refine XS_cons (X_if (B_compare (E_fcall he (globFact H (k := 23) (by rfl) (by rfl)) (F_law_now H).keeps (E_var he (u := .val (.ref a)) (by exact es) ?_))))
        refine CallK.v (law_now_ok H A₆ O₆ fun b7 σ₇ hb7 l₇ hL₇ hfr₇ => ?_)
        have F₇ := F₆.fr (Fr.le (a := a) (c := c₆) l₇)
        have hb7k : b7 ≠ kb := by rintro rfl; rw [F₆.hk] at hb7; cases hb7
        have LK₇ : LK σ₇ a c₆ kb b7 _ := ⟨hL₇, hb7k, fun vs w e hw => by rintro rfl; have := hfr₇ vs w e hw; rw [F₆.hk] at this; cases this⟩
        rw [List.map_append] at F₇
        obtain ⟨LKz, hzl', F₈⟩ := Fp.pop (L := D.map valsD) F₇
        have hk₇ : σ₇ kb = some (.list ((zs₀.map fun z => V.val (.ref z)) ++ [.val (.ref z)])) := by have := F₇.hk; simpa using this
        refine E_method (E_var he (u := .val (.ref kb)) (by exact ek) ⟨_, _, G_list hk₇ PySem.F.slot_list_pop (ty_md _), keeps_builtin _ _, ?_⟩)
        refine L_pop hk₇ (by rw [List.length_map, hzl]; have := hkl; simp at this; exact ar264 hk this) ?_
        refine O2_neL LK₇.put.llo.ll LKz.put.llo.ll ⟨_, rfl, ?_⟩
        have en : nowL ⟨undo S'.doms u, S'.firsts, t₀, ms₀, false, [], 0⟩ = D.map valsD := by unfold nowL; rw [k6]
        rw [en, decide_eq_false (fun q => q rfl)]
        refine ⟨fun q => (by cases q), fun _ => XS_nil (XS_nil ⟨rfl, ⟨by exact es, by exact er, by exact ea, by exact ec, by exact ek⟩, ⟨c₆, _, zs₀, ks₀, (A₆.le l₇).leB F₇.ko St.LeB.put, O₆, rfl, ef', ?_, by simp at hkl; exact ar125 hkl, F₈⟩⟩)⟩
        rw [k6]; exact k4
      · rintro g ρ' σ'' ⟨rfl, hE', hLI⟩
        exact XS_cons (X_cont ⟨k, rest, rfl, by exact ar265 hk, hLI, hE'⟩)
    -- a deed
    clear h5
    generalize num.fdiv 6 = r
    refine XS_cons (X_expr (E_method (E_var he (u := .val (.ref kb)) (by exact ek) ⟨_, _, G_list F'.hk PySem.F.slot_list_append (ty_md _), keeps_builtin _ _, ?_⟩)))
    refine E_fcall he (globFact H (k := 23) (by rfl) (by rfl)) (F_law_now H).keeps (E_var he (u := .val (.ref a)) (by exact es) ?_)
    refine CallK.v (law_now_ok H A' O' fun z σ₁ hz₁ l₁ hL₁ hfr₁ => ?_)
    have F₁ := F'.fr (Fr.le (a := a) (c := c') l₁)
    have hzk : z ≠ kb := by rintro rfl; rw [F'.hk] at hz₁; cases hz₁
    have LK₁ : LK σ₁ a c' kb z (S'.doms.map valsD) := ⟨hL₁, hzk, fun vs w e hw => by rintro rfl; have := hfr₁ vs w e hw; rw [F'.hk] at this; cases this⟩
    have hzl : zs.length = ks.length := by have := F'.zl; simpa using this
    refine L_append F₁.hk (by rw [List.length_map, hzl]; exact ar266 hkl hk) ?_
    have F₂ := F₁.push LK₁
    have eks : (ks.map fun D => D.map valsD) ++ [S'.doms.map valsD] = (ks ++ [S'.doms]).map fun D => D.map valsD := by simp
    rw [eks] at F₂
    have ezs : (zs.map fun z => V.val (.ref z)) ++ [.val (.ref z)] = (zs ++ [z]).map fun z => V.val (.ref z) := by simp
    rw [ezs]
    have A₂ := (A'.le l₁).leB F₁.ko (St.LeB.put (o := .list ((zs ++ [z]).map fun z => V.val (.ref z))))
    generalize σ₁.put kb (.list ((zs ++ [z]).map fun z => V.val (.ref z))) = σ₂ at F₂ A₂ ⊢
    refine XS_cons (X_expr (E_smeth H (E_var he (u := .val (.ref a)) (by exact es) ⟨rfl, A₂, ?_⟩) (F_s_push H).keeps))
    refine CallK.v (s_push_ok H A₂ (by exact ar68 hw) (by exact ar267 hkl hk hml) fun σ₃ A₃ fr₃ => ?_)
    have F₃ := F₂.fr fr₃
    have O₃ : OKS m { S' with marks := S'.marks ++ [(S'.trail.length : Int)] } := ⟨O'.toOKC, O'.nw⟩
    have lev₃ : Lev m S0.firsts S'.doms S'.trail (S'.marks ++ [(S'.trail.length : Int)]) (ks ++ [S'.doms]) := by
      have := Lev.snoc (u := []) (doms := S'.doms) hl' (by rw [← ef']; exact O'.toOKC) rfl (by simp)
      rw [List.append_nil] at this; exact this
    -- the literal
    have hsl : ((natVs (scopeL m)).length : Int) = ((m + 2 : Nat) : Int) := by simp [natVs, scopeL]
    refine XS_cons (X_assign (E_tuple (E_binop (E_var he (u := .int r) rfl (E_fcall he (bltFact H (k := 5) (by rfl) (by rfl)) (keeps_builtin _ _) (E_var he (u := .val (.ref sb)) (by exact ec) (C_len_list (.of F₃.hs) (by exact ar268 hi hmi hsl) ?_)))))))
    rw [hsl]
    refine O2_mod (by exact ar269) ?_
    obtain ⟨xi, hxi, exi⟩ := fmod_lt r (k := m + 2) (by exact ar65)
    rw [exi]
    refine E_sub (E_tuple (E_str (E_str (E_str (E_str ⟨by simp, E_binop (E_binop (E_var he (u := .int r) rfl (E_int (O2_fdiv (by exact ar270) (pyl (by exact ar271)) (E_int (O2_mod (by exact ar272) ?_))))))⟩)))))
    obtain ⟨si, hsi, esi⟩ := fmod_lt (r.fdiv 7) (k := 4) (by exact ar273)
    have esi : (r.fdiv 7).fmod 4 = (si : Int) := esi
    rw [esi]
    obtain ⟨sg, hsg⟩ := sg_item (y := y) (σ := σ₃) hsi
    refine ⟨_, hsg, ?_⟩
    refine E_binop (E_binop (E_binop (E_var he (u := .int r) rfl (E_int (O2_fdiv (by exact ar274) (pyl (by exact ar275)) (E_int (O2_mod (by exact ar260) (E_int (O2_sub ⟨by simp, T_var he ?_⟩)))))))))
    obtain ⟨ji, hji, eji⟩ := fmod_lt (r.fdiv 29) (k := 6) (by exact ar228)
    have eji : (r.fdiv 29).fmod 6 = (ji : Int) := eji
    rw [eji]
    have hj : -3 ≤ (ji : Int) - 1 ∧ (ji : Int) - 1 ≤ 6 := by exact ar276 hji
    generalize (ji : Int) - 1 = j at hj ⊢
    intro ρ
    obtain ⟨hd1, hd2⟩ := O₃.dget hxi
    obtain ⟨S₄, b₄, e₄, O₄, f₄, lev₄, fl₄⟩ := decide_lev O₃ (s := sg) hxi hj hf' (by rw [show ({ S' with marks := S'.marks ++ [(S'.trail.length : Int)] } : SS).firsts = S0.firsts from ef']; exact lev₃)
    have f₄ : S₄.firsts = S0.firsts := f₄.trans ef'
    have lev₄ : Lev m S0.firsts S₄.doms S₄.trail S₄.marks (ks ++ [S'.doms]) := by
      have e : ({ S' with marks := S'.marks ++ [(S'.trail.length : Int)] } : SS).firsts = S0.firsts := ef'
      rw [e] at lev₄; exact lev₄
    refine XS_cons (EX.mono (Q := fun g ρ' σ'' => g = .next ∧ LE a e q sb kb ρ' ∧ ∃ S₅, SA σ'' a c' S₅ ∧ OKS m S₅ ∧ S₅.firsts = S0.firsts ∧ Lev m S0.firsts S₅.doms S₅.trail S₅.marks (ks ++ [S'.doms]) ∧ Fp m P a e d q sb kb nb nums c' (zs ++ [z]) ((ks ++ [S'.doms]).map fun D => D.map valsD) σ'') (X_if (B_boolop ?_)) ?_)
    · refine B_val (E_smeth H (E_var he (u := .val (.ref a)) (by exact es) ⟨rfl, A₃, E_var he (u := lv ((xi : Int), sg, j)) rfl ?_⟩) (F_s_decide H).keeps)
      refine CallK.v (s_decide_ok H A₃ (x := xi) (s := sg) (k := j) hd1 (by have := O₃.dl; exact ar42 this) (by rw [hd2]; exact (O₃.cd hxi).1.small) (by exact ar67 hj) (by show S'.trail.length ≤ 1000; exact ar68 hw) (by show S'.news ≤ 1000; exact ar69 hw hnw) fun σ₄ A₄ fr₄ => ⟨_, rfl, ?_⟩)
      rw [e₄] at A₄ ⊢
      dsimp only at A₄ ⊢
      have F₄ := F₃.fr fr₄
      cases b₄ with
      | false =>
        show KIf _ _ _ _ _ _ _ _ _ _
        exact ⟨fun q => (by cases q), fun _ => XS_nil ⟨rfl, ⟨by exact es, by exact er, by exact ea, by exact ec, by exact ek⟩, S₄, A₄, O₄, f₄, lev₄, F₄⟩⟩
      | true =>
        show BAll _ _ _ _ _ _ _ _
        refine B_not (B_val (E_fcall he (globFact H (k := 26) (by rfl) (by rfl)) (F_law_asked_right H).keeps (E_var he (u := .val (.ref a)) (by exact es) (E_var he (u := .val (.ref e)) (by exact er) (E_var he (u := .val (.ref q)) (by exact ea) ?_)))))
        refine CallK.v (law_asked_right_ok H A₄ F₄.Ee O₄ (fl₄ rfl) (hfew' f₄) (P := P) (fun p => by rw [f₄]; exact hans p) F₄.hq F₄.qo (by exact ar188 hPl) fun σ₅ S₅ b₅ D => ⟨_, rfl, ?_⟩)
        show KIf _ _ _ _ _ _ _ _ _ _
        refine ⟨fun q => (by cases q), fun _ => XS_nil ⟨rfl, ⟨by exact es, by exact er, by exact ea, by exact ec, by exact ek⟩, S₅, D.A, D.ok, (Res.okS D.res O₄).2.1.trans f₄, ?_, F₄.fr D.fr⟩⟩
        have := Res.lev D.res O₄ (ks := ks ++ [S'.doms]) (ms := S₄.marks) (by rw [f₄]; exact lev₄)
        rw [f₄] at this
        rw [(Res.okS D.res O₄).2.2]; exact this
    rintro g ρ₅ σ₅ ⟨rfl, ⟨es, er, ea, ec, ek⟩, S₅, A₅, O₅, f₅, lev₅, F₅⟩
    have hw₅ := O₅.w
    have hml₅ := lev₅.len
    have hdl₅ := O₅.dl
    have hfl₅ := O₅.fl
    show XS y (n + 8) env _ _ _ _ _
    refine XS_cons (X_if (B_val (E_sattr H (u := .val (.bool S₅.failed)) (E_var he (u := .val (.ref a)) es ⟨rfl, A₅, _, rfl, fun hf₅ => ?_, fun hf₅ => XS_nil (XS_nil ⟨k + 1, rest, rfl, by exact ar277 hk, ⟨c', S₅, _, _, A₅, O₅, hf₅, f₅, lev₅, by simp; assumption, F₅⟩, ⟨es, er, ea, ec, ek⟩⟩)⟩) rfl)))
    obtain ⟨D, t₀, u, ms₀, ks₀, k1, k2, k3, k4, k5, k6, k7, k8⟩ := lev₅.last (by simp)
    obtain ⟨k1a, k1b⟩ := List.append_inj' k1 rfl
    subst k1a
    have k1b : S'.doms = D := by simpa using k1b
    subst k1b
    rw [List.length_append, List.length_singleton] at hml₅
    refine XS_cons (X_expr (E_smeth H (E_var he (u := .val (.ref a)) es ⟨rfl, A₅, E_int ?_⟩) (F_s_pop H).keeps))
    refine CallK.v (s_pop_ok H A₅ k2 k3 (by exact ar42 hdl₅) (by exact ar42 hfl₅) (by exact ar68 hw₅) (by exact ar278 hkl hk hml₅) (fun e he => by have := k7 e he; have := O₅.ld; exact ar263 (by assumption) this) fun c₆ σ₆ A₆ fr₆ => ?_)
    have hnot : decide ([] ∈ S₅.firsts) = false := decide_eq_false fun q => (O₅.canf _ q).2 rfl
    rw [hnot] at A₆
    have O₆ : OKS m ⟨undo S₅.doms u, S₅.firsts, t₀, ms₀, false, [], 0⟩ := ⟨by rw [k6, f₅]; exact k5, Nat.zero_le _⟩
    have F₆ := F₅.fr fr₆
    refine XS_cons (X_if (B_boolop ?_))
    refine B_compare (E_fcall he (globFact H (k := 23) (by rfl) (by rfl)) (F_law_now H).keeps (E_var he (u := .val (.ref a)) es ?_))
    refine CallK.v (law_now_ok H A₆ O₆ fun b7 σ₇ hb7 l₇ hL₇ hfr₇ => ?_)
    have F₇ := F₆.fr (Fr.le (a := a) (c := c₆) l₇)
    have hb7k : b7 ≠ kb := by rintro rfl; rw [F₆.hk] at hb7; cases hb7
    have LK₇ : LK σ₇ a c₆ kb b7 _ := ⟨hL₇, hb7k, fun vs w e hw => by rintro rfl; have := hfr₇ vs w e hw; rw [F₆.hk] at this; cases this⟩
    rw [List.map_append] at F₇
    obtain ⟨LKz, hzl', F₈⟩ := Fp.pop (L := S'.doms.map valsD) F₇
    have hk₇ : σ₇ kb = some (.list ((zs.map fun z => V.val (.ref z)) ++ [.val (.ref z)])) := by have := F₇.hk; simpa using this
    refine E_method (E_var he (u := .val (.ref kb)) ek ⟨_, _, G_list hk₇ PySem.F.slot_list_pop (ty_md _), keeps_builtin _ _, ?_⟩)
    refine L_pop hk₇ (by simp; exact ar279 hkl hk hzl) ?_
    refine O2_neL LK₇.put.llo.ll LKz.put.llo.ll ⟨_, rfl, ?_⟩
    have en : nowL ⟨undo S₅.doms u, S₅.firsts, t₀, ms₀, false, [], 0⟩ = S'.doms.map valsD := by unfold nowL; rw [k6]
    rw [en, decide_eq_false (fun q => q rfl)]
    show BAll _ _ _ _ _ _ _ _
    have A₈ := (A₆.le l₇).leB F₇.ko (St.LeB.put (o := .list (zs.map fun z => V.val (.ref z))))
    refine B_val (E_sattr H (u := .val (.bool false)) (E_var he (u := .val (.ref a)) es ⟨rfl, A₈, _, rfl, ?_⟩) rfl)
    show KIf _ _ _ _ _ _ _ _ _ _
    refine ⟨fun q => (by cases q), fun _ => XS_nil (XS_nil (XS_nil ⟨k + 1, rest, rfl, by exact ar277 hk, ⟨c₆, _, zs, ks, A₈, O₆, rfl, f₅, ?_, by exact ar107 hkl, F₈⟩, ⟨es, er, ea, ec, ek⟩⟩))⟩
    rw [k6]; exact k4
  · rintro x xs acc ρ' σ' ⟨k, hk, ex, rfl, A', fr', es⟩
    cases ed : bs.drop k with
    | nil => rw [ed] at ex; cases ex
    | cons z zs =>
      rw [ed] at ex
      injection ex with ex1 ex2
      subst ex1
      have hkb : k < bs.length := by
        rcases Nat.lt_or_ge k bs.length with h | h
        · exact h
        · rw [List.drop_of_length_le h] at ed; cases ed
      have hz : bs[k]? = some z := by
        have := congrArg List.head? ed
        rw [List.head?_drop] at this
        simpa using this
      have hzs : bs.drop (k + 1) = zs := by
        have := congrArg List.tail ed
        rw [List.tail_drop] at this
        simpa using this
      have hkl : k < (lotsV sc m).length := by exact ar155 k2 hkb
      have hc1 := k3 k z _ hz (List.getElem?_eq_getElem hkl)
      have hlk := hlots _ (List.getElem_mem hkl)
      generalize hlk' : (lotsV sc m)[k] = lk at *
      refine ⟨.of (fr' _ _ hLLO.nb k1).1, T_var hc ⟨by simp [natVs]; exact ar280 hi hmi hlotl k2 hkb, ?_⟩ (fun h => by cases h)⟩
      refine E_smeth H (E_var hc (u := .val (.ref a)) (by rw [upd_ne (by decide)]; exact es) ⟨rfl, A', E_fcall hc (globFact H (k := 17) (by rfl) (by rfl)) (F_law_ranges H).keeps (E_var hc (u := .val (.ref z)) (upd_self ..) ?_)⟩) (F_s_new_var H).keeps
      refine CallK.v (law_ranges_ok H (fr' _ _ (k4 z (List.mem_of_getElem? hz)) hc1).1 (by exact ar281 hlk) fun σ'' l => ?_)
      refine CallK.v (s_new_var_ok H (A'.le l) hlk.2.2.1 (by simp [startS]; exact ar282 hi hmi hlotl) (by simp [startS]; exact ar282 hi hmi hlotl) fun σ₃ A₃ fr₃ => ?_)
      have hlt : ((lotsV sc m).take k).length = k := by rw [List.length_take]; exact ar283 k2 hkb
      refine ⟨k + 1, by exact ar284 hlotl k2 hkb, by rw [hzs]; exact ex2, ?_, ?_, fr'.trans ((Fr.le l).trans fr₃), by rw [upd_ne (by decide)]; exact es⟩
      · have hdl : (startS ((lotsV sc m).take k)).doms.length = k := by simp [startS]; exact ar283 k2 hkb
        rw [List.range_succ, hdl]
        simp [natVs]
      · have et : (lotsV sc m).take (k + 1) = (lotsV sc m).take k ++ [lk] := by
          rw [List.take_add_one, List.getElem?_eq_getElem hkl, hlk']; rfl
        have : startS ((lotsV sc m).take (k + 1)) = { startS ((lotsV sc m).take k) with doms := (startS ((lotsV sc m).take k)).doms ++ [ranges lk], firsts := (startS ((lotsV sc m).take k)).firsts ++ [ranges lk] } := by
          rw [et]; simp [startS]
        rw [this]; exact A₃
end
end Mine
end
section
open PySem PySem.W PySem.Calls PyProof.Rows
set_option maxRecDepth 100000
namespace Mine
theorem ns_same {h : Heap} {a : Addr} {m m' : Str → Option Value} (x : h.Ns a m) (z : h.Ns a m') (n : Str) : m n = m' n := by
  obtain ⟨o, es, ep, e, hd, _, h1⟩ := x
  obtain ⟨o', es', ep', e', hd', _, h2⟩ := z
  rw [e] at e'
  cases e'
  rw [hd] at hd'
  cases hd'
  rw [← h1, ← h2]
theorem law_addr {h : Heap} {mg : Str → Option Value} {w : World} (Y : Says h) (g : h.Ns mainGlobals mg) {a : Addr} (e : mg "law" = some (.ref a)) : a = 470 := by
  have G := globFact (y := ⟨PySem.Challenge.pw_no0312_01, w, h⟩) Y (k := 28) (x := "law") (v := .ref 470) (by rfl) (by rfl)
  obtain ⟨mg', mb', v, G, e', r⟩ := G
  cases r
  have := ns_same g G.g "law"
  rw [e] at this
  rcases e' with e' | ⟨e', _⟩
  · rw [e'] at this
    injection this with this
    injection this
  · rw [e'] at this; cases this
theorem walk {w : World} {s : Shared} {sa : Addr} {vs : List Value} {sc : List Int} {E : Value → Shared → Prop} {R : Value → Shared → Prop} (Y : Says s.heap) (hL : s.heap.IsList sa vs.toArray) (hI : IntsAre vs sc) (hz : sc.length ≤ 1000)
    (h : ∀ h' tk, (∀ b o, s.heap.get? b = some o → h'.get? b = some o) → R (.bool true) (sw s h' tk)) :
    wpAny (model PySem.Challenge.pw_no0312_01 w) callerA (call (.ref 470) [.ref sa]) R E s := by
  have I : Inv s.heap (fun _ => none) s.heap := ⟨fun _ _ e => e, fun a x e => (by cases e), fun a x e => (by cases e)⟩
  have hR : Room callerA 9 := ⟨rfl, by decide +kernel, by decide +kernel⟩
  have k := CallK.v (law_ok (y := ⟨PySem.Challenge.pw_no0312_01, w, s.heap⟩) (n := 0) (σ := fun _ => none) (Q := fun x _ => x = .val (.bool true)) Y ⟨by kernel_rfl, by kernel_rfl⟩ (sa := sa) (sc := sc) (fun _ => .inr ⟨vs, hL, ints_out hI⟩) hz fun _ => rfl)
  refine wpAny_mono (k callerA hR s [.ref sa] I (.cons (.val _) .nil) E) ?_ fun _ _ e => e
  rintro v s' ⟨h', tk, σ', rfl, _, K, x, rv, rfl⟩
  cases rv
  exact h h' tk fun b o e => K.get b o e rfl fun q => q
end Mine
end
section
open PySem PySem.W PyProof.Rows
namespace Mine

theorem boot_abs (P : Params) (os : OsState) : (bootS P os).abs = ⟨boot_heap P, Array.mk [], boot_drawn, boot_toks, os⟩ := by kernel_rfl
theorem boot_size (P : Params) : ((boot_heap P).isNs mainGlobals && (Array.mk [] : Array GenState).size == 0) = true := by
  rw [Bool.and_eq_true]
  exact ⟨by kernel_rfl, by kernel_rfl⟩
theorem law_opening : opening PySem.Challenge.pw_no0312_01 = plainProg PySem.Challenge.pw_no0312_01.main.scope.names := by kernel_rfl
theorem law_fence (s : Shared) : fenceModules? PySem.Challenge.pw_no0312_01 s = some s := by kernel_rfl
theorem left_of {p q : Program} {loose : List Str} {Xt : Shared → Bool} {α : Type} {Yf : Shared → α} {Ya : World → α} {H₀ : Params → Heap} {g₀ : Array GenState} {d₀ : Drawn} {k₀ M : Nat} {S : Params → OsState → SharedT}
    (open_ : ∀ w : World, (fencedOpening treeTable p w (M + 600)).map (fun s => (s.heap, s.gens, s.drawn, s.toks)) = some (H₀ w.params, g₀, d₀, k₀))
    (habs : ∀ P os, (S P os).abs = ⟨H₀ P, g₀, d₀, k₀, os⟩) (size : ∀ P, ((H₀ P).isNs mainGlobals && g₀.size == 0) = true)
    (run : ∀ (w : World) (os : OsState), (runG through (stepOk (H₀ w.params).objs.size ((H₀ w.params).nsMap mainGlobals "__annotations__")) (stepT (denote treeTable) p w) M (S w.params os) (topStub p)).map (fun s =>
      ((staticsOk (importedModules p.main.body) (H₀ w.params) s.abs.heap && namesBound p s.abs.heap && gensDone s.abs && laidKept (H₀ w.params) s.abs.heap), openSeen q loose (importedModules p.main.body) Xt true s.abs, Yf s.abs)) = some (true, openGood q loose, Ya w)) :
    LeftO p q loose Xt Yf Ya (M + 600) := fun w => by
  obtain ⟨⟨h, gs, d, k, os⟩, e, e'⟩ := Option.map_eq_some_iff.mp (open_ w)
  obtain ⟨rfl, rfl, rfl, rfl⟩ : h = H₀ w.params ∧ gs = g₀ ∧ d = d₀ ∧ k = k₀ := by simpa using e'
  obtain ⟨s, a, b⟩ := Option.map_eq_some_iff.mp (run w os)
  obtain ⟨b1, b2⟩ := Prod.mk.inj b
  have r := topRun_mono 600 _ _ _ _ (runG_top _ _ _ _ a)
  rw [habs] at r
  have t : topFrom treeTable p w (M + 600) ⟨H₀ w.params, gs, d, k, os⟩ = some s.abs := by
    unfold topFrom
    dsimp only
    rw [size, r]
    show (match staticsOk (importedModules p.main.body) (H₀ w.params) s.abs.heap && namesBound p s.abs.heap && gensDone s.abs && laidKept (H₀ w.params) s.abs.heap with | true => _ | false => _) = _
    rw [b1]
  unfold openEnds
  rw [e]
  show (topFrom treeTable p w (M + 600) _).map _ = _
  rw [t]
  exact congrArg some b2
theorem left1 : LeftO PySem.Challenge.pw_no0312_01 qv looseL (fun _ => true) (fun s => told s.heap) (fun _ => toldVal) (5400 + 600) :=
  left_of (H₀ := boot_heap) (S := bootS) (boot_open law_opening rfl law_fence) boot_abs boot_size run1
theorem recs0 (h : Heap) : RecFacts [] h := ⟨fun _ hx => (nomatch hx), fun _ hx => (nomatch hx), fun _ _ _ hx => (nomatch hx), fun _ _ hx => (nomatch hx)⟩
abbrev lawRow : OpenRow := PySem.Challenge.rw_no0312_01.row
noncomputable def stPos : Option Stmt → Pos
  | some (.FunctionDef _ _ _ _ _ _ _ _ _ p) => p
  | _ => default
noncomputable def lawRec : DefRec := ⟨"law", (top 39).1, (top 39).2.1, (top 39).2.2, stPos (pwBody[39]?)⟩
theorem law_def : defOf qv lawRow.name = some (lawRec, []) := by kernel_rfl
theorem law_the : lawRow.prog.theDef lawRow.name = some (lawRec.params, lawRec.body, lawRec.scope) := by kernel_rfl
theorem law_kw : kwWritten? lawRec.params.kwonlyargs lawRec.params.kw_defaults = some [] := by kernel_rfl
theorem law_view : (chainsOk qv && opensWell lawRow.prog && (frees lawRow.toRowW && lawRow.within.isEmpty)) = true := by kernel_rfl
theorem law_bare : lawRow.prog.bare := ⟨rfl, rfl, rfl, rfl, rfl, by decide +kernel⟩
theorem left2 : LeftO lawRow.prog qv looseL (fun _ => true) (fun s => told s.heap) (fun _ => toldVal) (5400 + 600) := left1
set_option maxRecDepth 100000 in
set_option maxHeartbeats 0 in
theorem well_said : PySem.Challenge.rw_no0312_01.wellSaid = true := by
  unfold PySem.W.OpenLaw.wellSaid PySem.W.OpenRow.wellSaid PySem.W.OpenRow.partSaid PySem.W.looksOpen
  repeat' with_reducible refine PySem.W.look_both ?_ ?_
  all_goals decide +kernel
end Mine
end
open PySem PySem.W PyProof.Rows
set_option maxRecDepth 100000 in
set_option maxHeartbeats 8000000 in
theorem PySem.Challenge.cw_no0312_01_holds : PySem.Challenge.rw_no0312_01.Holds := by
  refine PySem.W.holds_law Mine.well_said fun said => ?_
  refine PySem.W.holds_open (r := Mine.lawRow) (q := Mine.qv) (loose := Mine.looseL) (Xt := fun _ => true) (XP := fun _ _ => True) (Yf := fun s => Mine.told s.heap) (Ya := fun _ => Mine.toldVal) (YP := fun _ h => Mine.Says h) (N := 5400 + 600) Mine.left2
    (fun w s e => ⟨s.heap, e, fun _ _ e => e⟩) (fun w h h' ⟨h₀, e, k⟩ k' => ⟨h₀, e, fun b o q => k' b o (k b o q)⟩) (fun _ _ => trivial) (fun _ _ _ _ _ => trivial) Mine.law_def Mine.law_the Mine.law_kw (fun s _ => Mine.recs0 s.heap) (by rfl)
    said Mine.law_view Mine.law_bare ?_ ?_
  · w_witness2
  · intro w s₀ s₁ mg mb G Y a o pm cd doc dV kV ho hd hcd hD hmg hg args vals as hpre hlay hrd hwl hlo
    wrow_args hpre hlay hrd hwl hlo
    rename IntsAre _ _ => hI
    rename Heap.IsList _ _ _ => hL
    rename ¬ _ < _ => hc
    have ha : a = 470 := Mine.law_addr (w := w) Y G.T.g hmg
    subst ha
    refine Mine.walk Y hL hI (by omega) fun h' tk k => ?_
    exact ⟨.inl ⟨.bool true, .bool true, [], rfl, fun cls => rfl, .bool true, by wrow_post, fun _ => ⟨List.nodup_nil, fun a ha => by cases ha⟩⟩, .of_keep k, rfl, .of_eq hg⟩
