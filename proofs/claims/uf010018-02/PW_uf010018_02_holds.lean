import PyProof.Rows.All
import PyProof.Claim2
import PyProof.Rows.Frame
import PyProof.AttrMissHeap
import PyProof.AutoSeq1
import PyProof.FitsInt
import PyProof.CallType
import PyProof.CallStr
import PyProof.Cells
import PyProof.CompMap
import PyProof.PlainList
import PyProof.ConsumeS
import PyProof.CompFree
import PyProof.Conv_int_bool
import PyProof.MeetsSeq
import PyProof.DictKinds
import PyProof.DictCalls
import PyProof.DictWalks
import PyProof.StrBlock
import PyProof.RangeIter
import PyProof.WalksMore
import PyProof.WalkInts
import PyProof.Rows.Tup
import PyProof.Rows.DictSet
import PyProof.Rows.RuleN_abs
import PyProof.Rows.SortShellK
import PyProof.Rows.SortStr
import OpenK.KLine
import KE.KDictList
import KE.KDictSum
import KE.KDictOf
import KE.KEqDict
import Wide.All
import OpenK.AllK
import Wide.FinOn
import Lean
import PySem.Challenge.RW_uf010018_02
set_option Elab.async false
set_option autoImplicit false
set_option linter.all false
namespace Mine
theorem hf1 {x y : Nat} (h : x ≤ y) : x / 2 ≤ y - 1 := by omega
theorem hf2 {a b : Nat} : (a + b) / 2 - a ≤ (b - a) / 2 := by omega
theorem hf3 {a b : Nat} : a - ((b + a) / 2 + 1) ≤ a - b - 1 := by omega
theorem hsub {x c d : Nat} (h : x ≤ c - d - 1) : x ≤ c - (d + 1) := h
theorem hlt {a b : Nat} (h : ¬ b - a = 0) : a < b := Nat.lt_of_sub_pos (Nat.pos_of_ne_zero h)
theorem hm {a b c d e : Nat} (h1 : a + d = e) (h2 : b = e) : min a b = a := Nat.min_eq_left (h2 ▸ h1 ▸ Nat.le_add_right a d)
theorem hsub1 {a b : Nat} (h : 0 < b) : a + (b - 1) = a + b - 1 := (Nat.add_sub_assoc h a).symm

theorem ar1 {a b : Nat} (h1 : a ≤ b - (1 : Nat)) (h2 : (0 : Nat) < b) : a + (1 : Nat) ≤ b := Nat.add_le_of_le_sub h2 h1
theorem ar2 {a b c d : Nat} (h1 : d ≤ b + (1 : Nat)) (h2 : a ≤ d + c) : a ≤ b + (c + (1 : Nat)) := by lia
theorem ar3 {a b c : Nat} (h1 : a ≤ (100000 : Nat)) (h2 : b ≤ (100000 : Nat)) (h3 : (200000 : Int) ≤ (↑c : Int)) (h4 : (↑a : Int) + (↑b : Int) > (↑c : Int)) : False := by lia
theorem ar4 {a b : Nat} (h1 : a < b) : a + (1 : Nat) ≤ b := Nat.succ_le_of_lt h1
theorem ar5 {a : Nat} (h1 : a ≤ (1000000 : Nat)) : (↑a : Int) ≤ (1000000 : Int) := Nat.ToInt.of_le rfl rfl h1
theorem ar6 {a b : Nat} (h1 : ¬a < b) (h2 : a < b + (1 : Nat)) : a = b := Nat.le_antisymm (Nat.le_of_lt_succ h2) (Nat.le_of_not_lt h1)
theorem ar7 {a b c : Nat} (h1 : b = c) (h2 : a < c) : a < b := Nat.lt_of_lt_of_eq h2 (id (Eq.symm h1))
theorem ar8 {a b c : Nat} (h1 : b ≤ c) (h2 : ¬a ≥ b) : (a + b) / (2 : Nat) < c := by lia
theorem ar9 {a b c : Nat} (h1 : a < (b + c) / (2 : Nat) + (1 : Nat)) : a ≤ (b + c) / (2 : Nat) := Nat.le_of_lt_succ h1
theorem ar10 {a b c d : Nat} (h1 : a - b ≤ c - d) : a - ((b + a) / (2 : Nat) + (1 : Nat)) ≤ c - (d + (1 : Nat)) := Nat.le_trans hf3 (hsub (Nat.sub_le_sub_right h1 1))
theorem ar11 {a b : Nat} (h1 : ¬a ≥ b) : (a + b) / (2 : Nat) + (1 : Nat) ≤ b := by omega
theorem ar12 {a b c d : Nat} (h1 : b - a ≤ c - d) : (a + b) / (2 : Nat) - a ≤ c - (d + (1 : Nat)) := Nat.le_trans hf2 (hsub (hf1 h1))
theorem ar13 {a b c : Nat} (h1 : a ≤ b) (h2 : b ≤ c) : (a + b) / (2 : Nat) ≤ c := by lia
theorem ar14 {a b : Nat} (h1 : ¬a ≥ b) : a ≤ (a + b) / (2 : Nat) := by lia
theorem ar15 {a b c d e : Nat} (h1 : a + e < d) (h2 : c ≤ e) (h3 : ¬b ≥ c) : a + (b + c) / (2 : Nat) < d := by lia
theorem ar16 {a b : Nat} (h1 : a ≤ b) (h2 : a ≥ b) : a = b := Nat.le_antisymm h1 h2
theorem ar17 {a b c : Nat} (h1 : a ≤ b) (h2 : b - a ≤ c - max (0 : Nat) c) : a = b := by lia
theorem ar18 {a b : Nat} (h1 : a ≤ b) (h2 : b < a) : False := Nat.not_lt_of_le h1 h2
theorem ar19 {a : Nat} (h1 : a < (0 : Nat)) : False := Nat.not_succ_le_zero a h1
theorem ar20 {a : Nat}  : a - (0 : Nat) ≤ a - (0 : Nat) := Nat.sub_le a 0
theorem ar21 {a : Nat}  : a ≤ a := Nat.le_refl a
theorem ar22 {a : Nat}  : (0 : Nat) ≤ a := Nat.zero_le a
theorem ar23 {a b c d : Nat} (h1 : a + d ≤ c) (h2 : b < d) : a + b < c := Nat.lt_of_lt_of_le (Nat.add_lt_add_left h2 a) h1
theorem ar24 {a b : Nat} (h1 : a < b) : min a b = a := Nat.min_eq_left (Nat.le_of_lt h1)
theorem ar25 {a b : Nat}  : min (max (max a (1 : Nat)) b) b = b := by lia
theorem ar26 {a b c : Nat} (h1 : a < min (max b (1 : Nat)) c) (h2 : ¬b = (0 : Nat)) : a < b := by lia
theorem ar27 {a b c d : Nat} (h1 : a ≤ b) (h2 : b < min (max c (1 : Nat)) d) (h3 : c = (0 : Nat)) : a = b := by lia
theorem ar28 {a b : Nat} (h1 : a < (1 : Nat) + (1 : Nat)) (h2 : ¬b = a) (h3 : b = (0 : Nat)) : a = (1 : Nat) := by lia
theorem ar29 {a b : Nat} (h1 : a ≤ b) (h2 : b < (1 : Nat) + (1 : Nat)) (h3 : ¬a = b) : a = (0 : Nat) := by lia
theorem ar30 {a : Nat} (h1 : (1 : Nat) ≤ a) (h2 : ¬(1 : Nat) = a) : (1 : Nat) + (1 : Nat) ≤ a := Nat.lt_of_le_of_ne h1 h2
theorem ar31 {a : Nat} (h1 : (1 : Nat) ≤ a) (h2 : ¬a > (1 : Nat)) : a = (1 : Nat) := by omega
theorem ar32 {a b c : Nat} (h1 : b ≤ c) (h2 : ¬b = c) : a + b < a + c := Nat.add_lt_add_left (Nat.lt_of_le_of_ne h1 h2) a
theorem ar33 {a b : Nat}  : a ≤ a + b := Nat.le_add_right a b
theorem ar34 {a b : Nat} (h1 : a < b + (1 : Nat)) (h2 : ¬a < b) : a = b := Nat.le_antisymm (Nat.le_of_lt_succ h1) (Nat.le_of_not_lt h2)
theorem ar35 {a b c : Nat} (h1 : b < c) : a + b < a + c := Nat.add_lt_add_left h1 a
theorem ar36 {a b c d : Nat} (h1 : b ≤ d) (h2 : d < c) : a + b < a + c := Nat.add_lt_add_left (Nat.lt_of_le_of_lt h1 h2) a
theorem ar37 {a b : Nat} (h1 : a ≤ b) (h2 : ¬a = b) : a + (1 : Nat) ≤ b := Nat.lt_of_le_of_ne h1 h2
theorem ar38 {a b c : Nat} (h1 : a ≤ c) (h2 : c < a + b) : a + (b - (1 : Nat)) = a + b - (1 : Nat) := hsub1 (Nat.pos_of_lt_add_right (Nat.lt_of_le_of_lt h1 h2))
theorem ar39 {a b : Nat} (h1 : a ≤ b) : a + (b - a) = b := Nat.add_sub_of_le h1
theorem ar40 {a b c : Nat} (h1 : b ≤ c) (h2 : c < b + a) : a - (1 : Nat) < a := Nat.sub_one_lt_of_lt (Nat.pos_of_lt_add_right (Nat.lt_of_le_of_lt h1 h2))
theorem ar41 {a b c : Nat} (h1 : a < b + c) : a - b ≤ c - (1 : Nat) := by omega
theorem ar42 {a b c : Nat} (h1 : b ≤ a) (h2 : a < b + c) : a - b < c := Nat.sub_lt_left_of_lt_add h1 h2
theorem ar43 {a b : Nat}  : (0 : Nat) ≤ a - b := Nat.zero_le (a - b)
theorem ar44 {a b c d : Nat} (h1 : a + d ≤ c) (h2 : b ≤ d) : a + b ≤ c := Nat.le_trans (Nat.add_le_add_left h2 a) h1
theorem ar45 {a b c d : Nat} (h1 : a + d ≤ c) (h2 : b ≤ d) (h3 : b > (1 : Nat)) : a + b - (1 : Nat) < c := by omega
theorem ar46 {a b c : Nat} (h1 : a + c ≤ b) (h2 : (1 : Nat) ≤ c) : a < b := Nat.lt_of_lt_of_le (Nat.lt_add_of_pos_right h2) h1
theorem ar47 {a b : Nat} (h1 : a ≤ b) (h2 : b < (1 : Nat)) : a = b := by omega
theorem ar48 {a b : Nat} (h1 : b + (1 : Nat) ≤ a) : (1 : Nat) ≤ a := Nat.le_trans (Nat.le_add_left 1 b) h1
theorem ar49 {a : Nat}  : (1 : Nat) ≤ a + (1 : Nat) := Nat.le_add_left 1 a
theorem ar50 {a b c : Nat} (h1 : a < b + (c + (1 : Nat))) (h2 : ¬a = b + c) : a < b + c := by lia
theorem ar51 {a b c d : Nat} (h1 : a + (b + (1 : Nat)) - (c + (1 : Nat) + (1 : Nat)) ≤ d) : a + b - (c + (1 : Nat)) ≤ d := by lia
theorem ar52 {a b : Nat}  : a + (b + (1 : Nat)) - (1 : Nat) = a + b := Nat.add_succ_sub_one a b
theorem ar53 {a b c : Nat} (h1 : c + (1 : Nat) ≤ b) : a + (b - (1 : Nat)) = a + b - (1 : Nat) := hsub1 (Nat.lt_of_lt_of_le (Nat.succ_pos c) h1)
theorem ar54 {a b : Nat} (h1 : b + (1 : Nat) ≤ a) : a - (1 : Nat) < a := Nat.sub_one_lt_of_lt h1
theorem ar55 {a b : Nat} (h1 : a ≤ b) (h2 : ¬a = b) : a ≤ b - (1 : Nat) := Nat.le_sub_one_of_lt (Nat.lt_of_le_of_ne h1 h2)
theorem ar56 {a b : Nat} (h1 : a + (1 : Nat) ≤ b) : a + (1 : Nat) + (1 : Nat) ≤ b + (1 : Nat) := Nat.succ_le_succ h1
theorem ar57 {a b : Nat} (h1 : a < b) : a ≤ b := Nat.le_of_lt h1
theorem ar58 {a b c d : Nat} (h1 : a + d ≤ c) (h2 : b < d) : a + b - (1 : Nat) < c := Nat.lt_of_le_of_lt (Nat.sub_le _ _) (Nat.lt_of_lt_of_le (Nat.add_lt_add_left h2 a) h1)
theorem ar59 {a b c : Nat} (h1 : b + (c + (1 : Nat)) - ((0 : Nat) + (1 : Nat)) ≤ a) (h2 : a < b + (c + (1 : Nat))) : a = b + (c + (1 : Nat)) - (1 : Nat) := Nat.eq_of_le_of_lt_succ h1 h2
theorem ar60 {a : Nat}  : (0 : Nat) + (1 : Nat) ≤ a + (1 : Nat) := Nat.le_add_left (0 + 1) a
theorem ar61 {a b c d : Nat} (h1 : a + d ≤ c) (h2 : b < d) : a + b ≤ c := Nat.le_trans (Nat.add_le_add_left (Nat.le_of_lt h2) a) h1
theorem ar62 {a b : Nat} (h1 : a ≤ b) : max a b = b := Nat.max_eq_right h1
theorem ar63 {a b c : Nat} (h1 : b + c - ((0 : Nat) + (1 : Nat)) ≤ a) (h2 : a < b + c) : a = b + c - (1 : Nat) := by lia
theorem ar64 {a b c : Nat} (h1 : c < b) : a + (a + b) - (1 : Nat) - (a + c) = a + (b - (1 : Nat) - c) := by obtain ⟨k, rfl⟩ := Nat.exists_eq_add_of_lt h1; show a + (a + (c + k)) - (a + c) = a + (c + k - c); rw [Nat.add_sub_cancel_left, ← Nat.add_assoc a c k, ← Nat.add_assoc a (a + c) k, Nat.add_comm a (a + c), Nat.add_assoc (a + c) a k, Nat.add_sub_cancel_left]
theorem ar65 {a b c d : Nat} (h1 : c ≤ d) (h2 : d < b) : a + (a + b) - (1 : Nat) - (a + c) = a + (b - (1 : Nat) - c) := ar64 (Nat.lt_of_le_of_lt h1 h2)
theorem ar66 {a b c : Nat} (h1 : c < a) : a - (1 : Nat) - b < a := Nat.lt_of_le_of_lt (Nat.sub_le _ b) (Nat.sub_one_lt_of_lt h1)
theorem ar67 {a b c : Nat} (h1 : c ≤ b) : a - (1 : Nat) - b ≤ a - (1 : Nat) - c := Nat.sub_le_sub_left h1 _
theorem ar68 {a b c : Nat} (h1 : b < c) : a ≤ a + b ∧ a + b < a + c := ⟨Nat.le_add_right a b, Nat.add_lt_add_left h1 a⟩
theorem ar69 {a b c d : Nat} (h1 : b ≤ d) (h2 : d < c) : a ≤ a + b ∧ a + b < a + c := ⟨Nat.le_add_right a b, Nat.add_lt_add_left (Nat.lt_of_le_of_lt h1 h2) a⟩
theorem ar70 {a b : Nat} (h1 : (1 : Nat) ≤ b) (h2 : b ≤ a) : (1 : Nat) ≤ a := Nat.le_trans h1 h2
theorem ar71 {a b c : Nat} (h1 : b < a) : ¬(a ≤ b ∧ b < a + c) := fun q => Nat.not_lt_of_le q.1 h1
theorem ar72 {a b c : Nat} (h1 : c ≤ b) (h2 : ¬c = b) : a + (b - (1 : Nat)) = a + b - (1 : Nat) := hsub1 (Nat.lt_of_le_of_lt (Nat.zero_le c) (Nat.lt_of_le_of_ne h1 h2))
theorem ar73 {a b : Nat} (h1 : b ≤ a) (h2 : ¬b = a) : a - (1 : Nat) < a := Nat.sub_one_lt_of_lt (Nat.lt_of_le_of_ne h1 h2)
theorem ar74 {a b c : Nat} (h1 : c < b + (1 : Nat) - min a (b + (1 : Nat))) : a ≤ b := by omega
theorem ar75 {a b c : Nat} (h1 : a < c) : a - b < c := Nat.lt_of_le_of_lt (Nat.sub_le a b) h1
theorem ar76 {a b c : Nat} (h1 : a < b + (1 : Nat) - min c (b + (1 : Nat))) : a ≤ b - c := by omega
theorem ar77 {a b c : Nat} (h1 : a < c) : a - b ≤ c := Nat.le_of_lt (Nat.lt_of_le_of_lt (Nat.sub_le a b) h1)
theorem ar78 {a b c : Nat} (h1 : c < b) : a + (1 : Nat) - min b (a + (1 : Nat)) ≤ a - c := by omega
theorem ar79 {a b : Nat} (h1 : a + (1 : Nat) ≤ b) : a + (1 : Nat) + (1 : Nat) ≤ (2 : Nat) * b + (1 : Nat) := by lia
theorem ar80 {a b : Nat} (h1 : ¬a ≥ b + (1 : Nat)) : a ≤ b := Nat.le_of_lt_succ (Nat.lt_of_not_le h1)
theorem ar81 {a : Nat}  : a < (2 : Nat) * a + (1 : Nat) := by lia
theorem ar82 {a b : Nat} (h1 : a ≥ b + (1 : Nat)) (h2 : a ≤ b) : False := Nat.not_lt_of_le h2 h1
theorem ar83 {a b c : Nat} (h1 : a < b) (h2 : max (0 : Nat) b + (1 : Nat) ≤ c) (h3 : c ≤ a) : False := by lia
theorem ar84   : (0 : Nat) + (1 : Nat) ≤ (1 : Nat) := ar60
theorem ar85   : (0 : Nat) < (1 : Nat) := Nat.one_pos
theorem ar86 {a b c d : Nat} (h1 : c + min a (b - c) ≤ d) (h2 : d < b) : a < b - c := by omega
theorem ar87 {a b c d : Nat} (h1 : a + min b (d - a) ≤ c) (h2 : c < d) : a + b ≤ c := by lia
theorem ar88 {a b c : Nat} (h1 : b < c - a) : a + b < c := Nat.add_comm a b ▸ Nat.add_lt_of_lt_sub h1
theorem ar89 {a b c : Nat} (h1 : a < b + c + (1 : Nat)) : a ≤ b + c := Nat.le_of_lt_succ h1
theorem ar90 {a b c d : Nat} (h1 : d < c - a) : a + min b (c - a) ≤ c := Nat.le_trans (Nat.add_le_add_left (Nat.min_le_right b (c - a)) a) (Nat.le_of_eq (Nat.add_sub_cancel' (Nat.le_of_lt (Nat.lt_of_sub_pos (Nat.lt_of_le_of_lt (Nat.zero_le d) h1)))))
theorem ar91 {a b c d : Nat} (h1 : b < c) (h2 : b < d - a) : a + b + (1 : Nat) ≤ a + min c (d - a) := Nat.add_lt_add_left (Nat.lt_min.mpr ⟨h1, h2⟩) a
theorem ar92 {a b c : Nat} (h1 : ¬a ≥ b - c) : a < b - c := Nat.lt_of_not_le h1
theorem ar93 {a b c : Nat} (h1 : ¬b ≥ c - a) : a + b < c := Nat.add_comm a b ▸ Nat.add_lt_of_lt_sub (Nat.lt_of_not_le h1)
theorem ar94 {a b c : Nat} (h1 : a ≥ b - c) (h2 : a < b - c) : False := Nat.not_lt_of_le h1 h2
theorem ar95 {a b c : Nat} (h1 : max (0 : Nat) a + (1 : Nat) ≤ b) (h2 : b < a - c) : False := by lia
theorem ar96 {a b : Nat} (h1 : b < a) : (0 : Nat) < a - b := Nat.zero_lt_sub_of_lt h1
theorem ar97 {a b c : Nat} (h1 : b ≤ c) (h2 : ¬a ≥ b) : a + (b - a) / (2 : Nat) < c := by lia
theorem ar98 {a b c : Nat} (h1 : a < b + (c - b) / (2 : Nat) + (1 : Nat)) : a ≤ b + (c - b) / (2 : Nat) := Nat.le_of_lt_succ h1
theorem ar99 {a b c d : Nat} (h1 : a - b ≤ c - d) : a - (b + (a - b) / (2 : Nat) + (1 : Nat)) ≤ c - (d + (1 : Nat)) := by rw [Nat.add_assoc, Nat.sub_add_eq]; exact Nat.le_trans (Nat.sub_le_sub_left (Nat.le_add_left 1 _) _) (hsub (Nat.sub_le_sub_right h1 1))
theorem ar100 {a b : Nat} (h1 : ¬a ≥ b) : a + (b - a) / (2 : Nat) + (1 : Nat) ≤ b := by lia
theorem ar101 {a b c d : Nat} (h1 : b - a ≤ c - d) : a + (b - a) / (2 : Nat) - a ≤ c - (d + (1 : Nat)) := Nat.le_trans (Nat.le_of_eq (Nat.add_sub_cancel_left ..)) (hsub (hf1 h1))
theorem ar102 {a b c : Nat} (h1 : a ≤ b) (h2 : b ≤ c) : a + (b - a) / (2 : Nat) ≤ c := by lia
theorem ar103 {a b : Nat}  : a ≤ a + (b - a) / (2 : Nat) := Nat.le_add_right a ((b - a) / 2)
theorem ar104 {a b c : Nat} (h1 : a ≤ c) : a - b ≤ c - (0 : Nat) := Nat.le_trans (Nat.sub_le a b) h1
theorem ar105 {a b c d : Nat} (h1 : b + c ≤ d) : a + b + (min (b + c) d - b) = a + (b + c) := by rw [Nat.min_eq_left h1, Nat.add_sub_cancel_left, Nat.add_assoc]
theorem ar106 {a b c d : Nat} (h1 : a + c ≤ d) : a + b + (min (a + c) d - a) = a + c + b := by rw [Nat.min_eq_left h1, Nat.add_sub_cancel_left, Nat.add_right_comm]
theorem ar107 {a b c : Nat} (h1 : b ≤ c) : a + b ≤ a + c := Nat.add_le_add_iff_left.mpr h1
theorem ar108 {a b c : Nat} (h1 : a ≤ c) (h2 : c < b) : a < b := Nat.lt_of_le_of_lt h1 h2
theorem ar109 {a b c d : Nat} (h1 : a + (1 : Nat) < b) (h2 : c < d) (h3 : max (0 : Nat) (b + d) + (1 : Nat) ≤ a + c) : False := by lia
theorem ar110   : (0 : Nat) + (1 : Nat) ≤ (0 : Nat) + (1 : Nat) := Nat.le_add_left (0 + 1) 0
theorem ar111 {a : Nat} (h1 : (1 : Nat) ≤ a) (h2 : ¬(1 : Nat) = a) : (1 : Nat) < a := Nat.lt_of_le_of_ne h1 h2
theorem ar112 {a : Nat} (h1 : (1 : Nat) ≤ a) (h2 : ¬(0 : Nat) + (1 : Nat) = a) : (0 : Nat) + (1 : Nat) < a := Nat.lt_of_le_of_ne h1 h2
theorem ar113 {a b c d : Nat} (h1 : a + b ≤ c + d) : a + (b + (1 : Nat)) ≤ c + (1 : Nat) + d := by lia
theorem ar114 {a b : Nat} (h1 : a + (1 : Nat) < b) (h2 : ¬a + (1 : Nat) + (1 : Nat) = b) : a + (1 : Nat) + (1 : Nat) < b := Nat.lt_of_le_of_ne h1 h2
theorem ar115 {a b c d : Nat} (h1 : a + d ≤ b + c) : a + (1 : Nat) ≤ b + (1 : Nat) + c := by lia
theorem ar116 {a b c d : Nat} (h1 : a + b ≤ c + d) : a + (b + (1 : Nat)) ≤ c + (d + (1 : Nat)) := Nat.succ_le_succ h1
theorem ar117 {a b : Nat} (h1 : a < b) (h2 : ¬a + (1 : Nat) = b) : a + (1 : Nat) < b := Nat.lt_of_le_of_ne h1 h2
theorem ar118 {a b c d : Nat} (h1 : a + d ≤ b + c) : a + (1 : Nat) ≤ b + (c + (1 : Nat)) := by lia
theorem ar119 {a b : Nat} (h1 : a + (1 : Nat) < b) : a < b := Nat.lt_of_succ_lt h1
theorem ar120 {a b c d e : Nat} (h1 : a + (1 : Nat) < b) (h2 : c < d) (h3 : e + max (0 : Nat) (b + d) ≤ a + c) : False := by lia
theorem ar121 {a b c d : Nat} (h1 : a + d ≤ b + c) : a ≤ b + c := Nat.le_trans (Nat.le_add_right a d) h1
theorem ar122 {a : Nat} (h1 : ¬a > (0 : Nat)) : a = (0 : Nat) := Nat.eq_zero_of_not_pos h1
theorem ar123 {a b c d : Nat} (h1 : a ≤ b + d) : a ≤ b + c + d := Nat.le_trans h1 (Nat.add_le_add_right (Nat.le_add_right b c) d)
theorem ar124 {a b c : Nat} (h1 : b ≤ c - a) (h2 : b > (0 : Nat)) (h3 : ¬a + b + (1 : Nat) = c) (h4 : ¬a + b = c) : a + b + (1 : Nat) < c := by lia
theorem ar125 {a b c : Nat} (h1 : b ≤ c - a) (h2 : b > (0 : Nat)) : a + b ≤ c := by lia
theorem ar126 {a b c : Nat} (h1 : a + c ≤ b) : a + (b - a) = b := Nat.add_sub_cancel' (Nat.le_trans (Nat.le_add_right _ _) h1)
theorem ar127 {a b c d : Nat} (h1 : b + d ≤ a) (h2 : a < c) : a - b < c - b := Nat.sub_lt_sub_right (Nat.le_trans (Nat.le_add_right _ _) h1) h2
theorem ar128 {a b c : Nat} (h1 : c + a ≤ b) : a ≤ b - c := Nat.le_sub_of_add_le' h1
theorem ar129 {a b : Nat} (h1 : b + (1 : Nat) < a) : (0 : Nat) < a - b := Nat.sub_pos_of_lt (Nat.lt_of_succ_lt h1)
theorem ar130 {a b : Nat} (h1 : a + (1 : Nat) < b) : a + (b - a) ≤ b := Nat.le_of_eq (Nat.add_sub_cancel' (Nat.le_of_lt (Nat.lt_of_succ_lt h1)))
theorem ar131 {a b c : Nat} (h1 : a ≤ b + c) : a ≤ b + (c + (1 : Nat)) := Nat.le_succ_of_le h1
theorem ar132 {a b c d : Nat} (h1 : a ≤ b + c) : a ≤ b + (c + (1 : Nat) + d) := by lia
theorem ar133 {a b c : Nat} (h1 : b ≤ c - (a + (1 : Nat))) (h2 : b > (0 : Nat)) (h3 : ¬a + (1 : Nat) + b = c) : a + (1 : Nat) + b < c := by omega
theorem ar134 {a b c : Nat} (h1 : b ≤ c - (a + (1 : Nat))) (h2 : b > (0 : Nat)) : a + (1 : Nat) + b ≤ c := by omega
theorem ar135 {a b c : Nat} (h1 : a + (1 : Nat) + c ≤ b) : a + (1 : Nat) + (b - (a + (1 : Nat))) = b := Nat.add_sub_cancel' (Nat.le_trans (Nat.le_add_right _ _) h1)
theorem ar136 {a b c d : Nat} (h1 : b + (1 : Nat) + d ≤ a) (h2 : a < c) : a - (b + (1 : Nat)) < c - (b + (1 : Nat)) := Nat.sub_lt_sub_right (Nat.le_trans (Nat.le_add_right _ _) h1) h2
theorem ar137 {a b c : Nat} (h1 : c + (1 : Nat) + a ≤ b) : a ≤ b - (c + (1 : Nat)) := Nat.le_sub_of_add_le' h1
theorem ar138 {a b : Nat} (h1 : b < a) (h2 : ¬b + (1 : Nat) = a) : (0 : Nat) < a - (b + (1 : Nat)) := Nat.sub_pos_of_lt (Nat.lt_of_le_of_ne h1 h2)
theorem ar139 {a b : Nat} (h1 : a < b) : a + (1 : Nat) + (b - (a + (1 : Nat))) ≤ b := Nat.le_of_eq (Nat.add_sub_cancel' h1)
theorem ar140 {a b c : Nat} (h1 : a ≤ b + c) : a + (1 : Nat) ≤ b + (1 : Nat) + c := by lia
theorem ar141 {a b c : Nat} (h1 : a ≤ b + c) : a ≤ b + (1 : Nat) + c := Nat.le_trans h1 (Nat.add_le_add_right (Nat.le_succ b) c)
theorem ar142 {a b c : Nat} (h1 : c + (1 : Nat) = b) (h2 : c ≤ a) (h3 : a < b) : a = b - (1 : Nat) := by lia
theorem ar143 {a b : Nat} (h1 : b ≤ a) (h2 : a < b + (1 : Nat)) : a = b := Nat.le_antisymm (Nat.le_of_lt_succ h2) h1
theorem ar144 {a : Nat}  : a ≤ a + (1 : Nat) := Nat.le_add_right a 1
theorem ar145 {a b c d e f g : Nat} (h1 : b ≤ c) (h2 : d ≤ b) (h3 : a + e + b = f + g) : a + (min b c - d) + e + d = f + g := by rw [Nat.min_eq_left h1, Nat.add_right_comm a (b - d) e, Nat.add_assoc (a + e), Nat.sub_add_cancel h2]; exact h3
theorem ar146 {a b c d e f g : Nat} (h1 : b ≤ c) (h2 : d ≤ b) (h3 : a + b + e = f + g) : a + (min b c - d) + d + e = f + g := by rw [Nat.min_eq_left h1, Nat.add_assoc a (b - d) d, Nat.sub_add_cancel h2]; exact h3
theorem ar147 {a b : Nat} (h1 : a ≤ b) : a = min a b := (Nat.min_eq_left h1).symm
theorem ar148 {a b c d : Nat} (h1 : (2 : Nat) ≤ a) (h2 : max (0 : Nat) (b + c) + (d + a) ≤ b + c) : False := by lia
theorem ar149 {a b : Nat}  : (0 : Nat) + (a - (1 : Nat) + b) ≤ a + b := (Nat.zero_add _).symm ▸ Nat.add_le_add_right (Nat.sub_le a 1) b
theorem ar150 {a : Nat} (h1 : (1 : Nat) ≤ a) (h2 : ¬a = (1 : Nat)) : (2 : Nat) ≤ a := Nat.lt_of_le_of_ne h1 (Ne.symm h2)
theorem ar151 {a : Nat}  : a - (1 : Nat) ≤ a := Nat.sub_le a 1
theorem ar152 {a : Nat} (h1 : ¬a - (1 : Nat) = (0 : Nat)) : (1 : Nat) ≤ a - (1 : Nat) := Nat.pos_of_ne_zero h1
theorem ar153 {a : Nat} (h1 : (1 : Nat) ≤ a) : a - (1 : Nat) + (1 : Nat) = a := Nat.sub_add_cancel h1
theorem ar154 {a : Nat} (h1 : (1 : Nat) ≤ a) : a - (1 : Nat) < a := Nat.sub_one_lt_of_lt h1
theorem ar155 {a b c d e f : Nat} (h1 : (2 : Nat) ≤ d) (h2 : a + b + (c + d) ≤ e + f) : a + (b + (1 : Nat)) + (c + (d - (1 : Nat))) ≤ e + f := by lia
theorem ar156 {a b : Nat} (h1 : a ≤ b) : a - (1 : Nat) ≤ b := Nat.le_trans (Nat.sub_le a 1) h1
theorem ar157 {a : Nat} (h1 : (2 : Nat) ≤ a) (h2 : ¬a - (1 : Nat) = (1 : Nat)) : (2 : Nat) ≤ a - (1 : Nat) := Nat.lt_of_le_of_ne (Nat.le_sub_one_of_lt h1) (Ne.symm h2)
theorem ar158 {a b c d e f : Nat} (h1 : (2 : Nat) ≤ c) (h2 : a + f + (b + c) ≤ d + e) : a + (1 : Nat) + (b + (c - (1 : Nat))) ≤ d + e := by lia
theorem ar159 {a : Nat} (h1 : (2 : Nat) ≤ a) : a - (1 : Nat) + (1 : Nat) = a := Nat.sub_add_cancel (Nat.le_of_succ_le h1)
theorem ar160 {a b c d e f : Nat} (h1 : (1 : Nat) ≤ c) (h2 : a + b + (c + d) ≤ e + f) : a + (b + (1 : Nat)) + (c - (1 : Nat) + d) ≤ e + f := by lia
theorem ar161 {a b c d e f : Nat} (h1 : (1 : Nat) ≤ b) (h2 : a + f + (b + c) ≤ d + e) : a + (1 : Nat) + (b - (1 : Nat) + c) ≤ d + e := by lia
theorem ar162 {a : Nat} (h1 : (2 : Nat) ≤ a) : (1 : Nat) ≤ a := Nat.le_of_succ_le h1
theorem ar163 {a b : Nat} (h1 : (1 : Nat) ≤ a) (h2 : a ≤ b) : a - (1 : Nat) < b := Nat.lt_of_lt_of_le (Nat.sub_one_lt_of_lt h1) h2
theorem ar164 {a b : Nat} (h1 : (2 : Nat) ≤ a) (h2 : a ≤ b) : a - (1 : Nat) < b := Nat.lt_of_lt_of_le (Nat.sub_one_lt_of_lt h1) h2
theorem ar165 {a b c d e : Nat} (h1 : (2 : Nat) ≤ a) (h2 : b + max (0 : Nat) (c + d) + (e + a) ≤ c + d) : False := by lia
theorem ar166 {a b c d e f : Nat} (h1 : a + f + (b + c) ≤ d + e) : a + (b + c) ≤ d + e := Nat.le_trans (Nat.add_le_add_right (Nat.le_add_right a f) (b + c)) h1
theorem ar167 {a b : Nat} (h1 : a ≤ b) (h2 : ¬b - a > (0 : Nat)) : a = b := Nat.le_antisymm h1 (Nat.le_of_sub_eq_zero (Nat.eq_zero_of_not_pos h2))
theorem ar168 {a b c d e f : Nat} (h1 : a + (f + c) ≤ d + e) (h2 : f - b > (0 : Nat)) : a + (b + c) ≤ d + e := Nat.le_trans (Nat.add_le_add_left (Nat.add_le_add_right (Nat.le_of_lt (Nat.lt_of_sub_pos h2)) c) a) h1
theorem ar169 {a b c : Nat} (h1 : c ≤ b) (h2 : c - a > (0 : Nat)) : a ≤ b := Nat.le_trans (Nat.le_of_lt (Nat.lt_of_sub_pos h2)) h1
theorem ar170 {a : Nat} (h1 : ¬a = (0 : Nat)) : (1 : Nat) ≤ a := Nat.pos_of_ne_zero h1
theorem ar171 {a b : Nat} (h1 : a ≤ b) : (0 : Nat) + a ≤ b := (Nat.zero_add a).symm ▸ h1
theorem ar172 {a b c d e : Nat} (h1 : a + (b + c) ≤ d + e) : a + (b + (c - (1 : Nat))) ≤ d + e := Nat.le_trans (Nat.add_le_add_left (Nat.add_le_add_left (Nat.sub_le c 1) b) a) h1
theorem ar173 {a b : Nat} (h1 : a ≤ b - (1 : Nat)) (h2 : ¬b - (1 : Nat) - a > (0 : Nat)) : a = b - (1 : Nat) := Nat.le_antisymm h1 (Nat.le_of_sub_eq_zero (Nat.eq_zero_of_not_pos h2))
theorem ar174 {a b c d e f : Nat} (h1 : a + (b + f) ≤ d + e) (h2 : f - (1 : Nat) - c > (0 : Nat)) : a + (b + c) ≤ d + e := Nat.le_trans (Nat.add_le_add_left (Nat.add_le_add_left (Nat.le_of_lt (Nat.lt_of_lt_of_le (Nat.lt_of_sub_pos h2) (Nat.sub_le f 1))) b) a) h1
theorem ar175 {a b c : Nat} (h1 : c ≤ b) (h2 : c - (1 : Nat) - a > (0 : Nat)) : a ≤ b := Nat.le_trans (Nat.le_of_lt (Nat.lt_of_lt_of_le (Nat.lt_of_sub_pos h2) (Nat.sub_le c 1))) h1
theorem ar176 {a : Nat} (h1 : ¬a = (1 : Nat)) (h2 : ¬a = (0 : Nat)) : (2 : Nat) ≤ a := by lia
theorem ar177 {a : Nat} (h1 : (2 : Nat) ≤ a) : a - (1 : Nat) - (1 : Nat) < a - (1 : Nat) := Nat.sub_one_lt_of_lt (Nat.lt_sub_of_add_lt h1)
theorem ar178 {a b : Nat} (h1 : a ≤ b) : (0 : Nat) + (a - (1 : Nat)) ≤ b := (Nat.zero_add (a - 1)).symm ▸ Nat.le_trans (Nat.sub_le a 1) h1
theorem ar179 {a b c d e : Nat} (h1 : a + (b + c) ≤ d + e) (h2 : ¬b - (1 : Nat) = (0 : Nat)) : a + (1 : Nat) + (b - (1 : Nat) + c) ≤ d + e := by lia
theorem ar180 {a b c d e : Nat} (h1 : a + (b + c) ≤ d + e) : a + (b - (1 : Nat) + c) ≤ d + e := Nat.le_trans (Nat.add_le_add_left (Nat.add_le_add_right (Nat.sub_le b 1) c) a) h1
theorem ar181 {a b : Nat} (h1 : a < b) : a ≤ b - (1 : Nat) := Nat.le_sub_one_of_lt h1
theorem ar182 {a b : Nat} (h1 : b = (1 : Nat)) (h2 : a < b) : a = (0 : Nat) := by lia
theorem ar183 {a b : Nat} (h1 : ¬b = (0 : Nat)) (h2 : a = b) : (1 : Nat) ≤ a := h2 ▸ Nat.pos_of_ne_zero h1
theorem ar184 {a b c d : Nat} (h1 : a = b - c) (h2 : ¬b - c ≤ d) : (1 : Nat) ≤ a := h1 ▸ Nat.lt_of_le_of_lt (Nat.zero_le d) (Nat.lt_of_not_le h2)
theorem ar185 {a b : Nat} (h1 : ¬b - a = (0 : Nat)) : a < b := hlt h1
theorem ar186 {a b c d : Nat} (h1 : a + c = d) (h2 : b = d) : a ≤ b := h2 ▸ h1 ▸ Nat.le_add_right a c
theorem ar187 {a b : Nat} (h1 : ¬b - a = (0 : Nat)) : a + (0 : Nat) < b := hlt h1
theorem ar188 {a b c d e : Nat} (h1 : a + d = e) (h2 : c = e) (h3 : b ≤ d) : a + b ≤ c := h2 ▸ h1 ▸ Nat.add_le_add_left h3 a
theorem ar189 {a b : Nat} (h1 : ¬b = (0 : Nat)) : a + (0 : Nat) < a + b := Nat.add_lt_add_left (Nat.pos_of_ne_zero h1) a
theorem ar190 {a b c : Nat} (h1 : ¬b - c = (0 : Nat)) (h2 : a = b - c) : (1 : Nat) ≤ a := h2 ▸ Nat.pos_of_ne_zero h1
theorem ar191 {a b c d e : Nat} (h1 : b + c = d) (h2 : e = d) (h3 : a < e) : a < b + c := h1.symm ▸ h2 ▸ h3
theorem ar192 {a b c d : Nat} (h1 : ¬b - d = (0 : Nat)) (h2 : a < d) : a < b + c := Nat.lt_of_lt_of_le (Nat.lt_trans h2 (hlt h1)) (Nat.le_add_right b c)
theorem ar193 {a b c : Nat} (h1 : a + c ≤ b) : a ≤ b := Nat.le_trans (Nat.le_add_right a c) h1
theorem ar194 {a b c d : Nat} (h1 : d ≤ c) (h2 : a < b + d) : a < b + c := Nat.lt_of_lt_of_le h2 (Nat.add_le_add_left h1 b)
theorem ar195 {a b c : Nat} (h1 : ¬b - c = (0 : Nat)) (h2 : a < c) : a < b := Nat.lt_trans h2 (hlt h1)
theorem ar196 {a b c d e : Nat} (h1 : c + d = e) (h2 : b = e) (h3 : ¬c - a = (0 : Nat)) : a ≤ b := Nat.le_trans (Nat.le_of_lt (hlt h3)) (h2 ▸ h1 ▸ Nat.le_add_right c d)
theorem ar197 {a b c d : Nat} (h1 : a < c + d) (h2 : c + d ≤ b) : a ≤ b := Nat.le_of_lt (Nat.lt_of_lt_of_le h1 h2)
theorem ar198 {a b : Nat} (h1 : ¬b < a) : a ≤ b := Nat.le_of_not_lt h1
theorem ar199 {a b : Nat} (h1 : b < a) : a - (1 : Nat) < a := Nat.sub_one_lt_of_lt h1
theorem ar200 {a b c : Nat} (h1 : a < c) (h2 : c ≤ b) : a ≤ b := Nat.le_of_lt (Nat.lt_of_lt_of_le h1 h2)
theorem ar201 {a b c : Nat} (h1 : ¬c - a = (0 : Nat)) (h2 : c ≤ b) : a ≤ b := Nat.le_trans (Nat.le_of_lt (hlt h1)) h2
theorem ar202 {a b c : Nat} (h1 : a < b) : a < b + c := Nat.lt_of_lt_of_le h1 (Nat.le_add_right b c)
theorem ar203 {a b c d : Nat} (h1 : ¬c - a = (0 : Nat)) (h2 : b = c - a + d) : a + b = c + d := by rw [h2, ← Nat.add_assoc, Nat.add_sub_cancel' (Nat.le_of_lt (hlt h1))]
theorem ar204 {a b c d e f g : Nat} (h1 : d + e = f) (h2 : c = f) (h3 : a ≤ d) (h4 : g ≤ e) (h5 : b = d - a + g) : a + (0 : Nat) + b ≤ c := by lia
theorem ar205 {a b : Nat} (h1 : ¬b - a = (0 : Nat)) : a + (b - a - (1 : Nat)) = b - (1 : Nat) := by rw [hsub1 (Nat.pos_of_ne_zero h1), Nat.add_sub_cancel' (Nat.le_of_lt (hlt h1))]
theorem ar206 {a b : Nat} (h1 : ¬b - a = (0 : Nat)) : a + (b - a - (1 : Nat)) < b := by lia
theorem ar207 {a b c d e : Nat} (h1 : a + d = e) (h2 : c = e) (h3 : b ≤ d) : min (a + b) c - a = b := by subst h1; subst h2; rw [Nat.min_eq_left (Nat.add_le_add_left h3 a), Nat.add_sub_cancel_left]
theorem ar208 {a b c d e : Nat} (h1 : a + d = e) (h2 : b = e) : min a b - c = a - c := by rw [h2, ← h1, Nat.min_eq_left (Nat.le_add_right a d)]
theorem ar209 {a b c d : Nat} (h1 : b + d ≤ a) (h2 : a < b + c) : a - b < c := Nat.sub_lt_left_of_lt_add (Nat.le_trans (Nat.le_add_right _ _) h1) h2
theorem ar210 {a b c d : Nat} (h1 : b + c = d) (h2 : a < d) : a < b + c := h1.symm ▸ h2
theorem ar211 {a b : Nat} (h1 : ¬b < a) : a + (b - a) = b := Nat.add_sub_cancel' (Nat.le_of_not_lt h1)
theorem ar212 {a b c d : Nat} (h1 : b + c = d) (h2 : a < d) (h3 : ¬a < b) : a - b < c := Nat.sub_lt_left_of_lt_add (Nat.le_of_not_lt h3) (h1.symm ▸ h2)
theorem ar213 {a b c : Nat} (h1 : a = (0 : Nat)) : a ≤ b - c := by lia
theorem ar214 {a b c d : Nat} (h1 : a + b = d) (h2 : c = d) : a + b ≤ c := Nat.le_of_eq (h1.trans h2.symm)
theorem ar215 {a b c d : Nat} (h1 : (1 : Nat) ≤ c) (h2 : a + c = d) (h3 : b = d) : a - (1 : Nat) < b := Nat.lt_of_le_of_lt (Nat.sub_le a 1) (h3 ▸ h2 ▸ Nat.lt_add_of_pos_right h1)
theorem ar216 {a b : Nat} (h1 : ¬b - a = (0 : Nat)) : a + (b - a) - (1 : Nat) = b - (1 : Nat) := by rw [Nat.add_sub_cancel' (Nat.le_of_lt (hlt h1))]
theorem ar217 {a b c : Nat} (h1 : c - b = (0 : Nat)) (h2 : a < c) : a < b := Nat.lt_of_lt_of_le h2 (Nat.le_of_sub_eq_zero h1)
theorem ar218 {a : Nat} (h1 : (1 : Nat) ≤ a) : (0 : Nat) < a := h1
theorem ar219 {a b c d : Nat} (h1 : a + c = d) (h2 : b = d) : (0 : Nat) + a ≤ b := (Nat.zero_add a).symm ▸ h2 ▸ h1 ▸ Nat.le_add_right a c
theorem ar220 {a b c d : Nat} (h1 : (1 : Nat) ≤ c) (h2 : a + c = d) (h3 : b = d) : a < b := h3 ▸ h2 ▸ Nat.lt_add_of_pos_right h1
theorem ar221 {a b c : Nat} (h1 : a ≤ c) (h2 : c ≤ b) : a + (b - a) = b := Nat.add_sub_cancel' (Nat.le_trans h1 h2)
theorem ar222 {a b c d : Nat} (h1 : b ≤ d) (h2 : d ≤ a) (h3 : a < b + c) : a - b < c := Nat.sub_lt_left_of_lt_add (Nat.le_trans h1 h2) h3
theorem ar223 {a b c : Nat} (h1 : a ≤ c) : a - b ≤ c - b := Nat.sub_le_sub_right h1 b
theorem ar224 {a b c d : Nat} (h1 : d + a < b) (h2 : b ≤ c) : a < min b c - d := by rw [Nat.min_eq_left h2]; exact Nat.lt_sub_of_add_lt (Nat.add_comm d a ▸ h1)
theorem ar225 {a b c d : Nat} (h1 : b < d) (h2 : d = c - a) : a + b < c := Nat.add_comm a b ▸ Nat.add_lt_of_lt_sub (h2 ▸ h1)
theorem ar226 {a b c : Nat} (h1 : b < c) : a + b ≤ a + c := Nat.add_le_add_left (Nat.le_of_lt h1) a
theorem ar227 {a b c d e : Nat} (h1 : d ≤ c) (h2 : b < e) (h3 : e = d - a) : a + b < c := Nat.lt_of_lt_of_le (Nat.add_comm a b ▸ Nat.add_lt_of_lt_sub (h3 ▸ h2)) h1
theorem ar228 {a b c d e f : Nat} (h1 : d ≤ c) (h2 : e < f) (h3 : b < e) (h4 : f = d - a) : a + b < c := Nat.lt_of_lt_of_le (Nat.add_comm a b ▸ Nat.add_lt_of_lt_sub (h4 ▸ Nat.lt_trans h3 h2)) h1
theorem ar229 {a b c : Nat} (h1 : a ≤ b) : min a b - c = a - c := by rw [Nat.min_eq_left h1]
theorem ar230 {a b c : Nat}  : a + b + (1 : Nat) + c = a + b + (c + (1 : Nat)) := Nat.add_right_comm (a + b) 1 c
theorem ar231 {a b c : Nat}  : a + b < a + b + (1 : Nat) + c := by lia
theorem ar232 {a b : Nat}  : a + b ≤ a + b := Nat.le_refl (a + b)
theorem ar233 {a b : Nat}  : a + (b + (1 : Nat)) = a + b + (1 : Nat) := Eq.symm (Nat.add_assoc a b 1)
theorem ar234 {a b c d : Nat} (h1 : a + b + (d + (1 : Nat)) ≤ c) : a + b < c := Nat.lt_of_add_right_lt h1
theorem ar235 {a b c d : Nat} (h1 : a + b + (c + (1 : Nat)) ≤ d) : a + (b + (1 : Nat)) + c ≤ d := by lia
theorem ar236 {a : Nat} (h1 : a < (128 : Nat)) : a ≤ (16777216 : Nat) + (1 : Nat) := by lia
theorem ar237 {a b : Nat} (h1 : (64 : Nat) ≤ b) (h2 : a = b) : ¬a < (2 : Nat) := by lia
theorem ar238 {a : Nat} (h1 : (64 : Nat) ≤ a) (h2 : max (0 : Nat) a = (0 : Nat)) : False := by lia
theorem ar239 {a b : Nat} (h1 : (1 : Nat) ≤ b - a) : a + (b - a) = b := Nat.add_sub_cancel' (Nat.le_of_lt (Nat.lt_of_sub_pos h1))
theorem ar240   : (2 : Nat) ≤ (1 : Nat) + (1 : Nat) := Nat.le_add_left 2 0
theorem ar241 {a b c : Nat} (h1 : b / (2 : Nat) + b % (2 : Nat) ≤ c) (h2 : a ≤ b - c) (h3 : ¬a < b / (2 : Nat) + b % (2 : Nat)) : a = b - c := by lia
theorem ar242 {a b c : Nat} (h1 : (1 : Nat) ≤ c) (h2 : c ≤ b - a) : a + (b - a) = b := Nat.add_sub_cancel' (Nat.le_of_lt (Nat.lt_of_sub_pos (Nat.le_trans h1 h2)))
theorem ar243 {a b c : Nat} (h1 : ¬a ≥ b) (h2 : c = b) : a + (b - a) ≤ c := Nat.le_of_eq ((Nat.add_sub_cancel' (Nat.le_of_lt (Nat.lt_of_not_le h1))).trans h2.symm)
theorem ar244 {a b : Nat} (h1 : a / (2 : Nat) + a % (2 : Nat) ≤ b) : min (a - b) (a / (2 : Nat) + a % (2 : Nat)) = a - b := by lia
theorem ar245 {a b : Nat} (h1 : ¬b ≥ a) : (1 : Nat) ≤ a - b := Nat.sub_pos_of_lt (Nat.lt_of_not_le h1)
theorem ar246 {a b : Nat} (h1 : a < b) : (0 : Nat) + a < b := (Nat.zero_add a).symm ▸ h1
theorem ar247 {a b c : Nat} (h1 : a ≤ c) (h2 : c < b) : (0 : Nat) + a < b := (Nat.zero_add a).symm ▸ Nat.lt_of_le_of_lt h1 h2
theorem ar248 {a b : Nat} (h1 : ¬a ≥ b) : a + (b - a) = b := Nat.add_sub_cancel' (Nat.le_of_lt (Nat.lt_of_not_le h1))
theorem ar249 {a b : Nat} (h1 : (1 : Nat) < b) (h2 : b / (2 : Nat) + b % (2 : Nat) ≤ a) : (1 : Nat) ≤ a := by lia
theorem ar250 {a b : Nat} (h1 : ¬b < a / (2 : Nat) + a % (2 : Nat)) : a / (2 : Nat) + a % (2 : Nat) ≤ b := Nat.le_of_not_lt h1
theorem ar251 {a : Nat}  : a / (2 : Nat) + a % (2 : Nat) ≤ a := by lia
theorem ar252 {a b : Nat} (h1 : a < b / (2 : Nat) + b % (2 : Nat)) : a ≤ b / (2 : Nat) + b % (2 : Nat) := Nat.le_of_lt h1
theorem ar253 {a : Nat}  : (0 : Nat) + (a / (2 : Nat) + a % (2 : Nat)) ≤ a := by lia
theorem ar254 {a : Nat}  : min a (a / (2 : Nat) + a % (2 : Nat)) = a / (2 : Nat) + a % (2 : Nat) := by lia
theorem ar255 {a : Nat} (h1 : (0 : Nat) < a) : (1 : Nat) ≤ a := h1
theorem ar256 {a : Nat}  : (0 : Nat) + a ≤ a := by lia
theorem ar257 {a : Nat} (h1 : (0 : Nat) < a) : ¬(0 : Nat) ≥ a := Nat.not_le_of_lt h1
theorem ar258 {a : Nat} (h1 : (64 : Nat) ≤ a) (h2 : max (0 : Nat) a = (1 : Nat)) : False := by lia
theorem ar259 {a : Nat}  : a / (2 : Nat) + max (0 : Nat) (a % (2 : Nat)) = a / (2 : Nat) + a % (2 : Nat) := Nat.add_left_inj.mpr rfl
theorem ar260 {a : Nat} (h1 : a < (128 : Nat)) : a / (2 : Nat) < (64 : Nat) := Nat.div_lt_of_lt_mul h1
theorem ar261 {a : Nat} (h1 : (64 : Nat) ≤ a) : ¬a < (64 : Nat) := Nat.not_lt.mpr h1
theorem ar262 {a : Nat} (h1 : (64 : Nat) ≤ a) : a = a - (2 : Nat) + (1 : Nat) + (1 : Nat) := by lia
end Mine

/-! An evaluator of my own over a small tree language (PE, PS), abstract values (PV), tracked objects (AObj). -/
set_option autoImplicit false
set_option backward.match.sparseCases false
set_option genSizeOf false
set_option genInjectivity false
namespace Mine
open PySem

/-- abstract values -/
inductive PV where
  | undef
  | none
  | bool (b : Bool)
  | int (i : Int)
  | str (s : Str)
  | tup (l : List PV)
  | lst (l : List PV)
  | dct (l : List (Str × PV))
  | rng (lo hi : Int)
  | ref (n : Nat)

/-- tracked objects -/
inductive AObj where
  | list (lk : Bool) (l : List PV)
  | dict (lk : Bool) (l : List (Str × PV))

noncomputable abbrev AH := List AObj

inductive Res (α : Type) where
  | ok (a : α) (σ : AH)
  | exc (e : PV) (σ : AH)
  | bad

@[simp] noncomputable def Res.bind {α β : Type} : Res α → (α → AH → Res β) → Res β
  | .ok a σ, f => f a σ
  | .exc e σ, _ => .exc e σ
  | .bad, _ => .bad

/-- targets of a for, a comprehension or an assignment -/
inductive Tgt where
  | one (i : Nat)
  | many (is : List Nat)

inductive Ty where
  | int | bool | str | tuple | list | dict
  deriving DecidableEq

/-- built-in functions -/
inductive BI where
  | len | sorted | tuple | dict | str | range
  | isinst (t : Ty)

/-- built-in methods -/
inductive BM where
  | append | get

mutual
inductive PE where
  | const (c : Const)
  | loc (i : Nat)
  | andE (es : PEs)
  | orE (es : PEs)
  | bin (op : Operator) (a b : PE)
  | notE (a : PE)
  | neg (a : PE)
  | cmp (op : CmpOp) (a b : PE)
  | tup (es : PEs)
  | lst (es : PEs)
  | edict
  | idx (a i : PE)
  | comp (elt : PE) (t : Tgt) (it : PE) (cond : PE)
  | call (f : Str) (args : PEs)
  | bi (b : BI) (args : PEs)
  | meth (o : PE) (m : BM) (args : PEs)
inductive PEs where
  | nil
  | cons (e : PE) (es : PEs)
end

mutual
inductive PS where
  | assign (i m : Nat) (e : PE)
  | setitem (o i : PE) (m : Nat) (v : PE)
  | expr (e : PE)
  | ret (m : Nat) (e : PE)
  | ite (t : PE) (b o : PSs)
  | forS (t : Tgt) (it : PE) (body : PSs) (kills : List Nat)
inductive PSs where
  | nil
  | cons (s : PS) (ss : PSs)
end

structure Fn where
  nargs : Nat
  slots : Nat
  body : PSs
  keep : Bool

structure Glob where
  const : Str → Option PV
  fn : Str → Option Fn

inductive Flw where
  | next | brk | cont
  | ret (v : PV)


/-! ## plain operations -/

noncomputable def dput {α : Type} (kvs : List (Str × α)) (k : Str) (v : α) : List (Str × α) :=
  if kvs.any (fun kv => kv.1 = k) then kvs.map (fun kv => if kv.1 = k then (kv.1, v) else kv) else kvs ++ [(k, v)]
noncomputable def dget {α : Type} (kvs : List (Str × α)) (k : Str) : Option α := (kvs.find? fun kv => kv.1 = k).map (·.2)
noncomputable def dhas {α : Type} (kvs : List (Str × α)) (k : Str) : Bool := kvs.any fun kv => kv.1 = k
noncomputable def ddel {α : Type} (kvs : List (Str × α)) (k : Str) : List (Str × α) := kvs.filter fun kv => ¬ kv.1 = k

/-- a made thing: fresh, not yet named by anybody -/
inductive Frs where
  | list (l : List PV)
  | dict (l : List (Str × PV))
noncomputable def Frs.val : Frs → PV
  | .list l => .lst l
  | .dict l => .dct l
noncomputable def Frs.obj : Frs → AObj
  | .list l => .list false l
  | .dict l => .dict false l
inductive Out where
  | v (v : PV)
  | f (f : Frs)

noncomputable def box (m : Nat) (f : Frs) (σ : AH) : Res PV := match m with
  | 0 => .ok f.val σ
  | _ + 1 => .ok (.ref σ.length) (σ ++ [f.obj])
noncomputable def fin (m : Nat) (o : Option Out) (σ : AH) : Res PV := match o with
  | some (.v v) => .ok v σ
  | some (.f f) => box m f σ
  | none => .bad

/-- a tracked list or dict as a value -/
noncomputable def derefO : Option AObj → PV
  | some (.list _ l) => .lst l
  | some (.dict _ l) => .dct l
  | none => .undef
noncomputable def deref (σ : AH) : PV → PV
  | .ref i => derefO σ[i]?
  | v => v
noncomputable def intOf : PV → Option Int
  | .int i => some i
  | _ => none
noncomputable def strOf : PV → Option Str
  | .str x => some x
  | _ => none
noncomputable def tupOf : PV → Option (List PV)
  | .tup l => some l
  | _ => none
noncomputable def lstOf : PV → Option (List PV)
  | .lst l => some l
  | _ => none
noncomputable def dctOf : PV → Option (List (Str × PV))
  | .dct l => some l
  | _ => none
noncomputable def refOf : PV → Option Nat
  | .ref i => some i
  | _ => none
noncomputable def seqOf : PV → Option (List PV)
  | .tup l => some l
  | .lst l => some l
  | _ => none
/-- both values of both kinds -/
noncomputable def both {α β γ : Type} (f : PV → Option α) (g : PV → Option β) (a b : PV) (h : α → β → Option γ) (k : Option γ) : Option γ :=
  match f a, g b with
  | some x, some y => h x y
  | _, _ => k
/-- the content of a sequence, a dict -/
noncomputable def asList (σ : AH) (v : PV) : Option (List PV) := lstOf (deref σ v)
noncomputable def asSeq (σ : AH) (v : PV) : Option (List PV) := seqOf (deref σ v)

noncomputable def signs (x : Str) : List PV := x.cps.toList.map fun c => .str ⟨#[c]⟩
noncomputable def rngInts (lo hi : Int) : List PV := (List.range (hi - lo).toNat).map fun (k : Nat) => .int (lo + (k : Int))
/-- what a for goes through -/
noncomputable def itemsD : PV → Option (List PV)
  | .tup l => some l
  | .lst l => some l
  | .dct l => some (l.map fun kv => .str kv.1)
  | .rng lo hi => some (rngInts lo hi)
  | .str x => some (signs x)
  | _ => none
noncomputable def items (σ : AH) (v : PV) : Option (List PV) := itemsD (deref σ v)

/-- lengths that the walk lets pass -/
noncomputable def small (n : Nat) : Bool := decide (n ≤ 1000000)

noncomputable def truthN (n : Nat) : Option Bool := if small n then some (n != 0) else none
noncomputable def truthD : PV → Option Bool
  | .none => some false
  | .bool b => some b
  | .int i => some (i != 0)
  | .str x => truthN x.length
  | .tup l => truthN l.length
  | .lst l => truthN l.length
  | _ => none
noncomputable def truth (σ : AH) (v : PV) : Option Bool := truthD (deref σ v)

-- the value with new tracked things as values
mutual
noncomputable def frzW (d : Nat → Option PV) : PV → Option PV
  | .ref i => d i
  | .tup l => (frzWs d l).map .tup
  | .lst l => (frzWs d l).map .lst
  | .dct l => (frzWd d l).map .dct
  | v => some v
noncomputable def frzWs (d : Nat → Option PV) : List PV → Option (List PV)
  | [] => some []
  | v :: r => (frzW d v).bind fun x => (frzWs d r).map (x :: ·)
noncomputable def frzWd (d : Nat → Option PV) : List (Str × PV) → Option (List (Str × PV))
  | [] => some []
  | (k, v) :: r => (frzW d v).bind fun x => (frzWd d r).map ((k, x) :: ·)
end
noncomputable def frzO (d : Nat → Option PV) : Option AObj → Option PV
  | some (.list _ l) => (frzWs d l).map .lst
  | some (.dict _ l) => (frzWd d l).map .dct
  | none => none
noncomputable def frz (n : Nat) (σ : AH) : Nat → PV → Option PV
  | 0 => frzW fun i => if i < n then some (.ref i) else none
  | k + 1 => frzW fun i => if i < n then some (.ref i) else frzO (fun j => frz n σ k (.ref j)) σ[i]?

end Mine

set_option autoImplicit false
set_option backward.match.sparseCases false
namespace Mine
open PySem

noncomputable def repStr (x : Str) (n : Int) : Str := ⟨(List.replicate n.toNat x.cps).foldl (· ++ ·) #[]⟩
noncomputable def strLt (x y : Str) : Bool := decide (x.cps.toList < y.cps.toList)
noncomputable def sortS (l : List Str) : List Str := l.mergeSort fun a b => !strLt b a

noncomputable def strsOf : List PV → Option (List Str)
  | [] => some []
  | v :: r => (strOf v).bind fun x => (strsOf r).map (x :: ·)
/-- pairs of a text and a value -/
noncomputable def pairOf : PV → Option (Str × PV)
  | .tup [.str k, v] => some (k, v)
  | _ => none
noncomputable def pairsOf : List PV → Option (List (Str × PV))
  | [] => some []
  | v :: r => (pairOf v).bind fun p => (pairsOf r).map (p :: ·)
noncomputable def dictOfPairs (l : List (Str × PV)) : List (Str × PV) := l.foldl (fun d kv => dput d kv.1 kv.2) []

open Classical in
noncomputable def binop (σ : AH) (op : Operator) (a b : PV) : Option Out := match op with
  | .Add => both intOf intOf a b (fun x y => some (.v (.int (x + y)))) (both strOf strOf a b (fun x y => if x.length + y.length ≤ 1000000 then some (.v (.str (x ++ y))) else none) none)
  | .Sub => both intOf intOf a b (fun x y => some (.v (.int (x - y)))) none
  | .Mult => both intOf intOf a b (fun x y => if IntMulOk x y then some (.v (.int (x * y))) else none) (both strOf intOf a b (fun x n => if n ≤ 1000 ∧ -1000 ≤ n ∧ x.length ≤ 1000 then some (.v (.str (repStr x n))) else none) none)
  | .FloorDiv => both intOf intOf a b (fun x y => if y = 0 then none else some (.v (.int (x.fdiv y)))) none
  | .Mod => both intOf intOf a b (fun x y => if y = 0 then none else some (.v (.int (x.fmod y)))) none
  | .Pow => both intOf intOf a b (fun x n => if 0 ≤ n ∧ n ≤ 1000000 ∧ x.natAbs < 2 ^ 64 then some (.v (.int (x ^ n.toNat))) else none) none
  | _ => none

noncomputable def pickAt (l : List PV) (k : Int) : Option Out := if 0 ≤ k ∧ k ≤ 1000000 then (l[k.toNat]?).map .v else none

noncomputable def signOf (x : Str) (k : Int) : Option Out := if 0 ≤ k ∧ k ≤ 1000000 then (x.cps[k.toNat]?).map fun c => .v (.str ⟨#[c]⟩) else none
noncomputable def getAt (σ : AH) (a i : PV) : Option Out :=
  both seqOf intOf (deref σ a) i pickAt (both strOf intOf a i signOf (both dctOf strOf (deref σ a) i (fun l k => (dget l k).map .v) none))

mutual
noncomputable def pureV : PV → Bool
  | .int _ | .str _ => true
  | .tup l => pureVs l
  | _ => false
noncomputable def pureVs : List PV → Bool
  | [] => true
  | v :: r => pureV v && pureVs r
end
mutual
noncomputable def deep : PV → Nat
  | .tup l => deeps l + 1
  | _ => 0
noncomputable def deeps : List PV → Nat
  | [] => 0
  | v :: r => max (deep v) (deeps r)
end
mutual
noncomputable def pvEq : PV → PV → Bool
  | .int i, b => (intOf b).any (i == ·)
  | .str x, b => (strOf b).any (x == ·)
  | .tup l, b => (tupOf b).any (pvEqs l)
  | _, _ => false
noncomputable def pvEqs : List PV → List PV → Bool
  | [], r => r.isEmpty
  | v :: l, r => r.head?.any (pvEq v) && pvEqs l r.tail
end
noncomputable def plain (v : PV) : Bool := pureV v && decide (deep v ≤ 200)

noncomputable def dctEq (l r : List (Str × PV)) : Bool := l.length == r.length && l.all fun kv => (dget r kv.1).any (pvEq kv.2)
noncomputable def plainD (l : List (Str × PV)) : Bool := l.all fun kv => plain kv.2
noncomputable def eqV (a b : PV) : Option Bool := if plain a && plain b then some (pvEq a b) else none
noncomputable def eqP (σ : AH) (a b : PV) : Option Bool := both dctOf dctOf (deref σ a) (deref σ b) (fun l r => if plainD l && plainD r then some (dctEq l r) else none) (eqV a b)

noncomputable def cmpP (σ : AH) (op : CmpOp) (a b : PV) : Option Bool := match op with
  | .Eq => eqP σ a b
  | .NotEq => (eqP σ a b).map (!·)
  | .Lt => both intOf intOf a b (fun x y => some (decide (x < y))) (both strOf strOf a b (fun x y => some (strLt x y)) none)
  | .LtE => both intOf intOf a b (fun x y => some (decide (x ≤ y))) (both strOf strOf a b (fun x y => some (!strLt y x)) none)
  | .Gt => both intOf intOf a b (fun x y => some (decide (x > y))) (both strOf strOf a b (fun x y => some (strLt y x)) none)
  | _ => none

noncomputable def tyD : PV → Option Ty
  | .int _ => some .int
  | .str _ => some .str
  | .tup _ => some .tuple
  | .lst _ => some .list
  | .dct _ => some .dict
  | _ => none
noncomputable def isTyD (t : Ty) : PV → Option Bool
  | .none => some false
  | .bool _ => some (t == .bool || t == .int)
  | v => (tyD v).map (t == ·)
noncomputable def isTy (σ : AH) (t : Ty) (v : PV) : Option Bool := isTyD t (deref σ v)

noncomputable def lenD : PV → Option Nat
  | .str x => some x.length
  | .tup l => some l.length
  | .lst l => some l.length
  | .dct l => some l.length
  | _ => none
noncomputable def lenP (σ : AH) (v : PV) : Option Nat := lenD (deref σ v)

/-- how many texts sorted() is let take -/
noncomputable def sortMost : Nat := 81

noncomputable def sortD : PV → Option (List Str)
  | .lst l => strsOf l
  | .dct l => some (l.map (·.1))
  | _ => none
noncomputable def sortArg (σ : AH) (v : PV) : Option (List Str) := sortD (deref σ v)
noncomputable def one {α : Type} : List α → Option α
  | [v] => some v
  | _ => none
noncomputable def biLen (σ : AH) (args : List PV) : Option Out := (one args).bind fun v => (lenP σ v).bind fun n => if small n then some (.v (.int n)) else none
noncomputable def biSorted (σ : AH) (args : List PV) : Option Out := (one args).bind fun v => (sortArg σ v).bind fun l => if l.length < sortMost then some (.f (.list ((sortS l).map .str))) else none
noncomputable def biTuple (σ : AH) (args : List PV) : Option Out := (one args).bind fun v => (asSeq σ v).bind fun l => if small l.length then some (.v (.tup l)) else none
noncomputable def dictD : PV → Option Out
  | .dct l => if small l.length then some (.f (.dict l)) else none
  | .tup l => (pairsOf l).bind fun r => if small r.length then some (.f (.dict (dictOfPairs r))) else none
  | _ => none
noncomputable def biDict (σ : AH) (args : List PV) : Option Out := (one args).bind fun v => dictD (deref σ v)
noncomputable def biStr (args : List PV) : Option Out := (one args).bind fun v => (intOf v).bind fun i => if i.natAbs < 10 ^ 40 then some (.v (.str (Str.ofString (toString i)))) else none
noncomputable def biRange (args : List PV) : Option Out := (one args).bind fun v => (intOf v).bind fun n => if n.natAbs ≤ 1000000 then some (.v (.rng 0 n)) else none
noncomputable def biIsinst (σ : AH) (t : Ty) (args : List PV) : Option Out := (one args).bind fun v => (isTy σ t v).map fun b => .v (.bool b)
noncomputable def biP (σ : AH) (b : BI) (args : List PV) : Option Out := match b with
  | .len => biLen σ args
  | .sorted => biSorted σ args
  | .tuple => biTuple σ args
  | .dict => biDict σ args
  | .str => biStr args
  | .range => biRange args
  | .isinst t => biIsinst σ t args

/-- the kind of thing that a method wants -/
noncomputable def BM.ty : BM → Ty
  | .append => .list
  | .get => .dict
/-- an open list, an open dict -/
noncomputable def openL (σ : AH) (i : Nat) : Option (List PV) := match σ[i]? with
  | some (.list false l) => some l
  | _ => none
noncomputable def openD (σ : AH) (i : Nat) : Option (List (Str × PV)) := match σ[i]? with
  | some (.dict false l) => some l
  | _ => none
noncomputable def pairA {α : Type} : List α → Option (α × α)
  | [v, x] => some (v, x)
  | _ => none
/-- methods: what they give back and the tracked things behind -/
noncomputable def bmP (σ : AH) (m : BM) (o : PV) (args : List PV) : Option (PV × AH) := match m with
  | .append => (one args).bind fun v => (refOf o).bind fun i => (openL σ i).bind fun l => if small l.length then some (.none, σ.set i (.list false (l ++ [v]))) else none
  | .get => (pairA args).bind fun p => (strOf p.1).bind fun k => (dctOf (deref σ o)).bind fun l => some ((dget l k).getD p.2, σ)

end Mine

set_option autoImplicit false
set_option backward.match.sparseCases false
namespace Mine
open PySem

structure Cx where
  gl : Str → Option PV
  cal : Str → List PV → AH → Res PV

noncomputable def setAll : List PV → List Nat → List PV → List PV
  | ρ, i :: is, v :: vs => setAll (ρ.set i v) is vs
  | ρ, _, _ => ρ
noncomputable def bindT : Tgt → PV → List PV → Option (List PV)
  | .one i, v, ρ => some (ρ.set i v)
  | .many is, .tup l, ρ => if l.length = is.length then some (setAll ρ is l) else none
  | _, _, _ => none
noncomputable def kill (ks : List Nat) (ρ : List PV) : List PV := ks.foldl (fun ρ i => ρ.set i .undef) ρ

/-- a thing that a loop goes through is locked meanwhile -/
noncomputable def lockAt (σ : AH) (i : Nat) (b : Bool) : AH := match σ[i]? with
  | some (.list _ l) => σ.set i (.list b l)
  | some (.dict _ l) => σ.set i (.dict b l)
  | _ => σ
noncomputable def lkAt (σ : AH) (i : Nat) : Bool := match σ[i]? with
  | some (.list b _) => b
  | some (.dict b _) => b
  | _ => false
noncomputable def lockV (σ : AH) (v : PV) (b : Bool) : AH := match v with
  | .ref i => lockAt σ i b
  | _ => σ
noncomputable def tgtSlots : Tgt → List Nat
  | .one i => [i]
  | .many is => is

noncomputable def lkV (σ : AH) (v : PV) : Bool := match v with
  | .ref i => lkAt σ i
  | _ => false
/-- behind a loop: as it was locked before -/
noncomputable def unlock {α : Type} (v : PV) (b : Bool) : Res α → Res α
  | .ok a σ => .ok a (lockV σ v b)
  | .exc e σ => .exc e (lockV σ v b)
  | .bad => .bad

noncomputable def compL (cond elt : List PV → AH → Res PV) (t : Tgt) (ρ : List PV) : List PV → AH → Res (List PV)
  | [], σ => .ok [] σ
  | x :: xs, σ => match bindT t x ρ with
    | none => .bad
    | some ρ1 => (cond ρ1 σ).bind fun b σ1 => match truth σ1 b with
      | some true => (elt ρ1 σ1).bind fun v σ2 => (compL cond elt t ρ xs σ2).bind fun vs σ3 => .ok (v :: vs) σ3
      | some false => compL cond elt t ρ xs σ1
      | none => .bad

noncomputable def constP : Const → Option PV
  | .none => some .none
  | .bool b => some (.bool b)
  | .int i => some (.int i)
  | .str x => some (.str x)
  | _ => none

noncomputable def okB (o : Option Bool) (σ : AH) : Res PV := match o with
  | some b => .ok (.bool b) σ
  | none => .bad

mutual
noncomputable def ev (c : Cx) : PE → Nat → List PV → AH → Res PV
  | .const k, _, _, σ => match constP k with | some v => .ok v σ | none => .bad
  | .loc i, _, ρ, σ => match ρ[i]? with
    | some .undef => .bad
    | some v => .ok v σ
    | none => .bad
  | .andE es, _, ρ, σ => evAnd c es ρ σ
  | .orE es, _, ρ, σ => evOr c es ρ σ
  | .bin op a b, m, ρ, σ => (ev c a 0 ρ σ).bind fun x σ1 => (ev c b 0 ρ σ1).bind fun y σ2 => fin m (binop σ2 op x y) σ2
  | .notE a, _, ρ, σ => (ev c a 0 ρ σ).bind fun x σ1 => okB ((truth σ1 x).map (!·)) σ1
  | .neg a, _, ρ, σ => (ev c a 0 ρ σ).bind fun x σ1 => match x with
    | .int i => .ok (.int (-i)) σ1
    | _ => .bad
  | .cmp op a b, _, ρ, σ => (ev c a 0 ρ σ).bind fun x σ1 => (ev c b 0 ρ σ1).bind fun y σ2 => okB (cmpP σ2 op x y) σ2
  | .tup es, _, ρ, σ => (evs c es 0 ρ σ).bind fun vs σ1 => .ok (.tup vs) σ1
  | .lst es, m, ρ, σ => (evs c es m.pred ρ σ).bind fun vs σ1 => box m (.list vs) σ1
  | .edict, m, _, σ => box m (.dict []) σ
  | .idx a i, _, ρ, σ => (ev c a 0 ρ σ).bind fun x σ1 => (ev c i 0 ρ σ1).bind fun k σ2 => fin 0 (getAt σ2 x k) σ2
  | .comp elt t it cond, m, ρ, σ => (ev c it 0 ρ σ).bind fun v σ1 => match items σ1 v with
    | none => .bad
    | some l => (unlock v (lkV σ1 v) (compL (ev c cond 0) (ev c elt m.pred) t (kill (tgtSlots t) ρ) l (lockV σ1 v true))).bind fun vs σ2 => if small vs.length then box m (.list vs) σ2 else .bad
  | .call f args, _, ρ, σ => (evs c args 0 ρ σ).bind fun vs σ1 => c.cal f vs σ1
  | .bi b args, m, ρ, σ => (evs c args 0 ρ σ).bind fun vs σ1 => fin m (biP σ1 b vs) σ1
  | .meth o mt args, _, ρ, σ => (ev c o 0 ρ σ).bind fun x σ1 => if isTy σ1 mt.ty x = some true then (evs c args 0 ρ σ1).bind fun vs σ2 => match bmP σ2 mt x vs with
      | some (v, σ3) => .ok v σ3
      | none => .bad
    else .bad
noncomputable def evs (c : Cx) : PEs → Nat → List PV → AH → Res (List PV)
  | .nil, _, _, σ => .ok [] σ
  | .cons e es, m, ρ, σ => (ev c e m ρ σ).bind fun v σ1 => (evs c es m ρ σ1).bind fun vs σ2 => .ok (v :: vs) σ2
noncomputable def evAnd (c : Cx) : PEs → List PV → AH → Res PV
  | .nil, _, _ => .bad
  | .cons e .nil, ρ, σ => ev c e 0 ρ σ
  | .cons e es, ρ, σ => (ev c e 0 ρ σ).bind fun v σ1 => match truth σ1 v with
    | some true => evAnd c es ρ σ1
    | some false => .ok v σ1
    | none => .bad
noncomputable def evOr (c : Cx) : PEs → List PV → AH → Res PV
  | .nil, _, _ => .bad
  | .cons e .nil, ρ, σ => ev c e 0 ρ σ
  | .cons e es, ρ, σ => (ev c e 0 ρ σ).bind fun v σ1 => match truth σ1 v with
    | some true => .ok v σ1
    | some false => evOr c es ρ σ1
    | none => .bad
end

noncomputable def setAt (σ : AH) (a i v : PV) : Option AH :=
  both refOf strOf a i (fun r k => (openD σ r).bind fun l => if small l.length then some (σ.set r (.dict false (dput l k v))) else none) none

noncomputable abbrev FE := Flw × List PV

noncomputable def forL (body : List PV → AH → Res FE) (t : Tgt) (ks : List Nat) : List PV → List PV → AH → Res FE
  | [], ρ, σ => .ok (.next, kill ks ρ) σ
  | x :: xs, ρ, σ => match bindT t x (kill ks ρ) with
    | none => .bad
    | some ρ1 => (body ρ1 σ).bind fun r σ1 => match r.1 with
      | .next => forL body t ks xs r.2 σ1
      | .cont => forL body t ks xs r.2 σ1
      | .brk => .ok (.next, kill ks r.2) σ1
      | .ret v => .ok (.ret v, r.2) σ1

mutual
noncomputable def exec (c : Cx) : PS → List PV → AH → Res FE
  | .assign i m e, ρ, σ => (ev c e m ρ σ).bind fun v σ1 => .ok (.next, ρ.set i v) σ1
  | .setitem o i m v, ρ, σ => (ev c v m ρ σ).bind fun x σ1 => (ev c o 0 ρ σ1).bind fun a σ2 => (ev c i 0 ρ σ2).bind fun k σ3 => match setAt σ3 a k x with
    | some σ4 => .ok (.next, ρ) σ4
    | none => .bad
  | .expr e, ρ, σ => (ev c e 0 ρ σ).bind fun _ σ1 => .ok (.next, ρ) σ1
  | .ret m e, ρ, σ => (ev c e m ρ σ).bind fun v σ1 => .ok (.ret v, ρ) σ1
  | .ite t b o, ρ, σ => (ev c t 0 ρ σ).bind fun x σ1 => match truth σ1 x with
    | some true => execs c b ρ σ1
    | some false => execs c o ρ σ1
    | none => .bad
  | .forS t it body ks, ρ, σ => (ev c it 0 ρ σ).bind fun v σ1 => match items σ1 v with
    | some l => unlock v (lkV σ1 v) (forL (execs c body) t ks l ρ (lockV σ1 v true))
    | none => .bad
noncomputable def execs (c : Cx) : PSs → List PV → AH → Res FE
  | .nil, ρ, σ => .ok (.next, ρ) σ
  | .cons s ss, ρ, σ => (exec c s ρ σ).bind fun r σ1 => match r.1 with
    | .next => execs c ss r.2 σ1
    | f => .ok (f, r.2) σ1
end

noncomputable def Flw.out : Flw → PV
  | .ret v => v
  | _ => .none

open Classical in
noncomputable def runFn (c : Cx) (f : Fn) (args : List PV) (σ : AH) : Res PV :=
  if args.length = f.nargs then
    (execs c f.body (args ++ List.replicate (f.slots - f.nargs) .undef) σ).bind fun r σ' =>
      if f.keep then .ok r.1.out σ'
      else if σ'.take σ.length = σ then match frz σ.length σ' 3 r.1.out with
        | some v => .ok v σ
        | none => .bad
      else .bad
  else .bad

noncomputable def callD (G : Glob) : Nat → Str → List PV → AH → Res PV
  | 0, _, _, _ => .bad
  | d + 1, f, args, σ => match G.fn f with
    | some F => runFn ⟨G.const, callD G d⟩ F args σ
    | none => .bad

end Mine

set_option autoImplicit false
set_option backward.match.sparseCases true
namespace Mine
open PySem

/-! ### rules by which the evaluator is run -/
theorem bind_ok {α β : Type} (a : α) (σ : AH) (f : α → AH → Res β) : (Res.ok a σ).bind f = f a σ := rfl
theorem fin_v (m : Nat) (v : PV) (σ : AH) : fin m (some (.v v)) σ = .ok v σ := rfl
theorem fin_f0 (f : Frs) (σ : AH) : fin 0 (some (.f f)) σ = .ok f.val σ := rfl
theorem fin_f1 (f : Frs) (σ : AH) : fin 1 (some (.f f)) σ = .ok (.ref σ.length) (σ ++ [f.obj]) := rfl
theorem okB_some (b : Bool) (σ : AH) : okB (some b) σ = .ok (.bool b) σ := rfl
theorem truth_bool (σ : AH) (b : Bool) : truth σ (.bool b) = some b := rfl
theorem constP_int (i : Int) : constP (.int i) = some (.int i) := rfl
theorem constP_str (x : Str) : constP (.str x) = some (.str x) := rfl
theorem constP_bool (b : Bool) : constP (.bool b) = some (.bool b) := rfl
theorem constP_none : constP .none = some .none := rfl
theorem add_ii (σ : AH) (x y : Int) : binop σ .Add (.int x) (.int y) = some (.v (.int (x + y))) := rfl
theorem sub_ii (σ : AH) (x y : Int) : binop σ .Sub (.int x) (.int y) = some (.v (.int (x - y))) := rfl
theorem mod_ii (σ : AH) (x y : Int) (h : y ≠ 0) : binop σ .Mod (.int x) (.int y) = some (.v (.int (x.fmod y))) := if_neg h
theorem div_ii (σ : AH) (x y : Int) (h : y ≠ 0) : binop σ .FloorDiv (.int x) (.int y) = some (.v (.int (x.fdiv y))) := if_neg h
theorem mul_ii (σ : AH) (x y : Int) (h : IntMulOk x y) : binop σ .Mult (.int x) (.int y) = some (.v (.int (x * y))) := if_pos h
theorem pow_ii (σ : AH) (x n : Int) (h : 0 ≤ n ∧ n ≤ 1000000 ∧ x.natAbs < 2 ^ 64) : binop σ .Pow (.int x) (.int n) = some (.v (.int (x ^ n.toNat))) := if_pos h
theorem add_ss (σ : AH) (x y : Str) (h : x.length + y.length ≤ 1000000) : binop σ .Add (.str x) (.str y) = some (.v (.str (x ++ y))) := if_pos h
theorem mul_si (σ : AH) (x : Str) (n : Int) (h : n ≤ 1000 ∧ -1000 ≤ n ∧ x.length ≤ 1000) : binop σ .Mult (.str x) (.int n) = some (.v (.str (repStr x n))) := if_pos h
theorem lt_ii (σ : AH) (x y : Int) : cmpP σ .Lt (.int x) (.int y) = some (decide (x < y)) := rfl
theorem gt_ii (σ : AH) (x y : Int) : cmpP σ .Gt (.int x) (.int y) = some (decide (x > y)) := rfl
theorem le_ii (σ : AH) (x y : Int) : cmpP σ .LtE (.int x) (.int y) = some (decide (x ≤ y)) := rfl
theorem le_ss (σ : AH) (x y : Str) : cmpP σ .LtE (.str x) (.str y) = some (!strLt y x) := rfl
theorem plain_int (i : Int) : plain (.int i) = true := rfl
theorem plain_str (i : Str) : plain (.str i) = true := rfl
theorem eq_ii (σ : AH) (x y : Int) : cmpP σ .Eq (.int x) (.int y) = some (x == y) := rfl
theorem ne_ii (σ : AH) (x y : Int) : cmpP σ .NotEq (.int x) (.int y) = some (!(x == y)) := rfl
theorem eq_ss (σ : AH) (x y : Str) : cmpP σ .Eq (.str x) (.str y) = some (x == y) := rfl
theorem len_lst (σ : AH) (l : List PV) (h : l.length ≤ 1000000) : biP σ .len [.lst l] = some (.v (.int l.length)) := if_pos (decide_eq_true h)
theorem len_tup (σ : AH) (l : List PV) (h : l.length ≤ 1000000) : biP σ .len [.tup l] = some (.v (.int l.length)) := if_pos (decide_eq_true h)
theorem pick_nat {l : List PV} {k : Nat} {v : PV} (hk : k ≤ 1000000) (h : l[k]? = some v) : pickAt l k = some (.v v) :=
  (if_pos ⟨Int.natCast_nonneg k, ar5 hk⟩).trans (show (l[k]?).map Out.v = _ by rw [h]; rfl)
theorem idx_lst (σ : AH) (l : List PV) (k : Nat) (v : PV) (hk : k ≤ 1000000) (h : l[k]? = some v) : getAt σ (.lst l) (.int k) = some (.v v) := pick_nat hk h
theorem idx_tup (σ : AH) (l : List PV) (k : Nat) (v : PV) (hk : k ≤ 1000000) (h : l[k]? = some v) : getAt σ (.tup l) (.int k) = some (.v v) := pick_nat hk h

theorem bits_le {x : Int} {n : Nat} (hx : x.natAbs < 2 ^ n) : Builtin.Int.intBits x ≤ n := by
  unfold Builtin.Int.intBits
  split
  · exact Nat.zero_le _
  · rename_i h0
    have h1 : x.natAbs ≠ 0 := fun q => h0 (by simpa using q)
    have := (Nat.log2_lt h1).mpr hx
    exact ar4 this
theorem mulOk {x y : Int} (hx : x.natAbs < 2 ^ 100000) (hy : y.natAbs < 2 ^ 100000) : IntMulOk x y := by
  have h1 := bits_le hx
  have h2 := bits_le hy
  unfold IntMulOk
  intro h
  have h3 := (Bool.and_eq_true_iff.mp h).2
  have h4 : (200000 : Int) ≤ (bitsLine : Int) := by decide
  simp only [Builtin.Int.intTooBig, decide_eq_true_eq] at h3
  exact (ar3 h1 h2 h4 h3).elim
theorem lt_pow {a b n m : Nat} (h : a < b ^ n) (hm : n ≤ m) (hb : 0 < b) : a < b ^ m := Nat.lt_of_lt_of_le h (Nat.pow_le_pow_right hb hm)
theorem mulOk_w {x y : Int} (hx : x.natAbs < 2 ^ 1000) (hy : y.natAbs < 2 ^ 1000) : IntMulOk x y := mulOk (lt_pow hx (by decide) (by decide)) (lt_pow hy (by decide) (by decide))
theorem mulOk_l {x y : Int} (h1 : -(2 ^ 64) < x) (h2 : x < 2 ^ 64) : IntMulOk x y := .of_left (intBits_le_64 h1 h2)
theorem mulOk_r {x y : Int} (h1 : -(2 ^ 64) < y) (h2 : y < 2 ^ 64) : IntMulOk x y := .of_right (intBits_le_64 h1 h2)
end Mine

set_option autoImplicit false
set_option backward.match.sparseCases false
namespace Mine
open PySem
/-! the evaluator's equations, fully applied -/
section
variable (c : Cx) (m : Nat) (ρ : List PV) (σ : AH)
noncomputable def kBin2 (m : Nat) (op : Operator) (x y : PV) (σ : AH) : Res PV := fin m (binop σ op x y) σ
noncomputable def kBin1 (c : Cx) (b : PE) (m : Nat) (op : Operator) (ρ : List PV) (x : PV) (σ : AH) : Res PV := (ev c b 0 ρ σ).bind (kBin2 m op x)
noncomputable def kNot (x : PV) (σ : AH) : Res PV := okB ((truth σ x).map (!·)) σ
noncomputable def kNeg (x : PV) (σ : AH) : Res PV := match x with | .int i => .ok (.int (-i)) σ | _ => .bad
noncomputable def kCmp2 (op : CmpOp) (x y : PV) (σ : AH) : Res PV := okB (cmpP σ op x y) σ
noncomputable def kCmp1 (c : Cx) (b : PE) (op : CmpOp) (ρ : List PV) (x : PV) (σ : AH) : Res PV := (ev c b 0 ρ σ).bind (kCmp2 op x)
noncomputable def kTup (vs : List PV) (σ : AH) : Res PV := .ok (.tup vs) σ
noncomputable def kLst (m : Nat) (vs : List PV) (σ : AH) : Res PV := box m (.list vs) σ
noncomputable def kIdx2 (x k : PV) (σ : AH) : Res PV := fin 0 (getAt σ x k) σ
noncomputable def kIdx1 (c : Cx) (i : PE) (ρ : List PV) (x : PV) (σ : AH) : Res PV := (ev c i 0 ρ σ).bind (kIdx2 x)
noncomputable def kComp2 (m : Nat) (vs : List PV) (σ : AH) : Res PV := if small vs.length then box m (.list vs) σ else .bad
noncomputable def kCompI (c : Cx) (elt : PE) (t : Tgt) (cond : PE) (m : Nat) (ρ : List PV) (v : PV) (σ1 : AH) : Option (List PV) → Res PV
  | none => .bad
  | some l => (unlock v (lkV σ1 v) (compL (ev c cond 0) (ev c elt m.pred) t (kill (tgtSlots t) ρ) l (lockV σ1 v true))).bind (kComp2 m)
noncomputable def kComp1 (c : Cx) (elt : PE) (t : Tgt) (cond : PE) (m : Nat) (ρ : List PV) (v : PV) (σ1 : AH) : Res PV := kCompI c elt t cond m ρ v σ1 (items σ1 v)
noncomputable def kCall (c : Cx) (f : Str) (vs : List PV) (σ : AH) : Res PV := c.cal f vs σ
noncomputable def kBi (b : BI) (m : Nat) (vs : List PV) (σ : AH) : Res PV := fin m (biP σ b vs) σ
noncomputable def kMeth3 : Option (PV × AH) → Res PV
  | some (v, σ) => .ok v σ
  | none => .bad
noncomputable def kMeth2 (mt : BM) (x : PV) (vs : List PV) (σ : AH) : Res PV := kMeth3 (bmP σ mt x vs)
noncomputable def kMethI (c : Cx) (mt : BM) (args : PEs) (ρ : List PV) (x : PV) (σ : AH) : Option Bool → Res PV
  | some true => (evs c args 0 ρ σ).bind (kMeth2 mt x)
  | _ => .bad
noncomputable def kMeth1 (c : Cx) (mt : BM) (args : PEs) (ρ : List PV) (x : PV) (σ : AH) : Res PV := kMethI c mt args ρ x σ (isTy σ mt.ty x)
noncomputable def kCons2 (v : PV) (vs : List PV) (σ : AH) : Res (List PV) := .ok (v :: vs) σ
noncomputable def kCons1 (c : Cx) (es : PEs) (m : Nat) (ρ : List PV) (v : PV) (σ : AH) : Res (List PV) := (evs c es m ρ σ).bind (kCons2 v)
noncomputable def kAndI (c : Cx) (es : PEs) (ρ : List PV) (v : PV) (σ : AH) : Option Bool → Res PV
  | some true => evAnd c es ρ σ
  | some false => .ok v σ
  | none => .bad
noncomputable def kAnd (c : Cx) (es : PEs) (ρ : List PV) (v : PV) (σ : AH) : Res PV := kAndI c es ρ v σ (truth σ v)
noncomputable def kOrI (c : Cx) (es : PEs) (ρ : List PV) (v : PV) (σ : AH) : Option Bool → Res PV
  | some true => .ok v σ
  | some false => evOr c es ρ σ
  | none => .bad
noncomputable def kOr (c : Cx) (es : PEs) (ρ : List PV) (v : PV) (σ : AH) : Res PV := kOrI c es ρ v σ (truth σ v)
noncomputable def kAssign (ρ : List PV) (i : Nat) (v : PV) (σ : AH) : Res FE := .ok (.next, ρ.set i v) σ
noncomputable def kSet4 (ρ : List PV) : Option AH → Res FE
  | some σ => .ok (.next, ρ) σ
  | none => .bad
noncomputable def kSet3 (ρ : List PV) (x a k : PV) (σ : AH) : Res FE := kSet4 ρ (setAt σ a k x)
noncomputable def kSet2 (c : Cx) (i : PE) (ρ : List PV) (x a : PV) (σ : AH) : Res FE := (ev c i 0 ρ σ).bind (kSet3 ρ x a)
noncomputable def kSet1 (c : Cx) (o i : PE) (ρ : List PV) (x : PV) (σ : AH) : Res FE := (ev c o 0 ρ σ).bind (kSet2 c i ρ x)
noncomputable def kExpr (ρ : List PV) (_v : PV) (σ : AH) : Res FE := .ok (.next, ρ) σ
noncomputable def kRet (ρ : List PV) (v : PV) (σ : AH) : Res FE := .ok (.ret v, ρ) σ
noncomputable def kIfI (c : Cx) (b o : PSs) (ρ : List PV) (σ : AH) : Option Bool → Res FE
  | some true => execs c b ρ σ
  | some false => execs c o ρ σ
  | none => .bad
noncomputable def kIf (c : Cx) (b o : PSs) (ρ : List PV) (x : PV) (σ : AH) : Res FE := kIfI c b o ρ σ (truth σ x)
noncomputable def kForI (c : Cx) (t : Tgt) (body : PSs) (ks : List Nat) (ρ : List PV) (v : PV) (σ : AH) : Option (List PV) → Res FE
  | some l => unlock v (lkV σ v) (forL (execs c body) t ks l ρ (lockV σ v true))
  | none => .bad
noncomputable def kFor (c : Cx) (t : Tgt) (body : PSs) (ks : List Nat) (ρ : List PV) (v : PV) (σ : AH) : Res FE := kForI c t body ks ρ v σ (items σ v)
noncomputable def kSeqI (c : Cx) (ss : PSs) (ρ : List PV) (σ : AH) : Flw → Res FE
  | .next => execs c ss ρ σ
  | f => .ok (f, ρ) σ
noncomputable def kSeq (c : Cx) (ss : PSs) (r : FE) (σ : AH) : Res FE := kSeqI c ss r.2 σ r.1
theorem e_const (k : Const) : ev c (.const k) m ρ σ = match constP k with | some v => .ok v σ | none => .bad := rfl
theorem e_loc (i : Nat) : ev c (.loc i) m ρ σ = match ρ[i]? with | some .undef => .bad | some v => .ok v σ | none => .bad := rfl
theorem e_and (es : PEs) : ev c (.andE es) m ρ σ = evAnd c es ρ σ := rfl
theorem e_or (es : PEs) : ev c (.orE es) m ρ σ = evOr c es ρ σ := rfl
theorem e_bin (op : Operator) (a b : PE) : ev c (.bin op a b) m ρ σ = (ev c a 0 ρ σ).bind (kBin1 c b m op ρ) := rfl
theorem k_bin1 (b : PE) (op : Operator) (x : PV) : kBin1 c b m op ρ x σ = (ev c b 0 ρ σ).bind (kBin2 m op x) := rfl
theorem k_bin2 (op : Operator) (x y : PV) : kBin2 m op x y σ = fin m (binop σ op x y) σ := rfl
theorem e_not (a : PE) : ev c (.notE a) m ρ σ = (ev c a 0 ρ σ).bind kNot := rfl
theorem k_not (x : PV) : kNot x σ = okB ((truth σ x).map (!·)) σ := rfl
theorem e_neg (a : PE) : ev c (.neg a) m ρ σ = (ev c a 0 ρ σ).bind kNeg := rfl
theorem k_neg (i : Int) : kNeg (.int i) σ = .ok (.int (-i)) σ := rfl
theorem e_cmp (op : CmpOp) (a b : PE) : ev c (.cmp op a b) m ρ σ = (ev c a 0 ρ σ).bind (kCmp1 c b op ρ) := rfl
theorem k_cmp1 (b : PE) (op : CmpOp) (x : PV) : kCmp1 c b op ρ x σ = (ev c b 0 ρ σ).bind (kCmp2 op x) := rfl
theorem k_cmp2 (op : CmpOp) (x y : PV) : kCmp2 op x y σ = okB (cmpP σ op x y) σ := rfl
theorem e_tup (es : PEs) : ev c (.tup es) m ρ σ = (evs c es 0 ρ σ).bind kTup := rfl
theorem k_tup (vs : List PV) : kTup vs σ = .ok (.tup vs) σ := rfl
theorem e_lst (es : PEs) : ev c (.lst es) m ρ σ = (evs c es m.pred ρ σ).bind (kLst m) := rfl
theorem k_lst (vs : List PV) : kLst m vs σ = box m (.list vs) σ := rfl
theorem e_edict : ev c .edict m ρ σ = box m (.dict []) σ := rfl
theorem e_idx (a i : PE) : ev c (.idx a i) m ρ σ = (ev c a 0 ρ σ).bind (kIdx1 c i ρ) := rfl
theorem k_idx1 (i : PE) (x : PV) : kIdx1 c i ρ x σ = (ev c i 0 ρ σ).bind (kIdx2 x) := rfl
theorem k_idx2 (x k : PV) : kIdx2 x k σ = fin 0 (getAt σ x k) σ := rfl
theorem e_comp (elt : PE) (t : Tgt) (it cond : PE) : ev c (.comp elt t it cond) m ρ σ = (ev c it 0 ρ σ).bind (kComp1 c elt t cond m ρ) := by
  with_unfolding_all rfl
theorem k_comp1 (elt : PE) (t : Tgt) (cond : PE) (v : PV) : kComp1 c elt t cond m ρ v σ = kCompI c elt t cond m ρ v σ (items σ v) := rfl
theorem k_compI (elt : PE) (t : Tgt) (cond : PE) (v : PV) (l : List PV) : kCompI c elt t cond m ρ v σ (some l) = (unlock v (lkV σ v) (compL (ev c cond 0) (ev c elt m.pred) t (kill (tgtSlots t) ρ) l (lockV σ v true))).bind (kComp2 m) := rfl
theorem k_comp2 (vs : List PV) : kComp2 m vs σ = if small vs.length then box m (.list vs) σ else .bad := rfl
theorem e_call (f : Str) (args : PEs) : ev c (.call f args) m ρ σ = (evs c args 0 ρ σ).bind (kCall c f) := rfl
theorem k_call (gl : Str → Option PV) (cal : Str → List PV → AH → Res PV) (f : Str) (vs : List PV) : kCall ⟨gl, cal⟩ f vs σ = cal f vs σ := rfl
theorem e_bi (b : BI) (args : PEs) : ev c (.bi b args) m ρ σ = (evs c args 0 ρ σ).bind (kBi b m) := rfl
theorem k_bi (b : BI) (vs : List PV) : kBi b m vs σ = fin m (biP σ b vs) σ := rfl
theorem e_meth (o : PE) (mt : BM) (args : PEs) : ev c (.meth o mt args) m ρ σ = (ev c o 0 ρ σ).bind (kMeth1 c mt args ρ) := by
  show (ev c o 0 ρ σ).bind _ = _
  congr 1
  funext x σ1
  show _ = kMethI c mt args ρ x σ1 (isTy σ1 mt.ty x)
  rcases isTy σ1 mt.ty x with _ | (_ | _)
  · rfl
  · rfl
  · with_unfolding_all rfl
theorem k_meth1 (mt : BM) (args : PEs) (x : PV) : kMeth1 c mt args ρ x σ = kMethI c mt args ρ x σ (isTy σ mt.ty x) := rfl
theorem k_methI (mt : BM) (args : PEs) (x : PV) : kMethI c mt args ρ x σ (some true) = (evs c args 0 ρ σ).bind (kMeth2 mt x) := rfl
theorem k_meth2 (mt : BM) (x : PV) (vs : List PV) : kMeth2 mt x vs σ = kMeth3 (bmP σ mt x vs) := rfl
theorem k_meth3 (v : PV) : kMeth3 (some (v, σ)) = .ok v σ := rfl
theorem e_nil : evs c .nil m ρ σ = .ok [] σ := rfl
theorem e_cons (e : PE) (es : PEs) : evs c (.cons e es) m ρ σ = (ev c e m ρ σ).bind (kCons1 c es m ρ) := rfl
theorem k_cons1 (es : PEs) (v : PV) : kCons1 c es m ρ v σ = (evs c es m ρ σ).bind (kCons2 v) := rfl
theorem k_cons2 (v : PV) (vs : List PV) : kCons2 v vs σ = .ok (v :: vs) σ := rfl
theorem e_and1 (e : PE) : evAnd c (.cons e .nil) ρ σ = ev c e 0 ρ σ := rfl
theorem e_and2 (e e' : PE) (es : PEs) : evAnd c (.cons e (.cons e' es)) ρ σ = (ev c e 0 ρ σ).bind (kAnd c (.cons e' es) ρ) := by
  with_unfolding_all rfl
theorem k_and (es : PEs) (v : PV) : kAnd c es ρ v σ = kAndI c es ρ v σ (truth σ v) := rfl
theorem k_and_t (es : PEs) (v : PV) : kAndI c es ρ v σ (some true) = evAnd c es ρ σ := rfl
theorem k_and_f (es : PEs) (v : PV) : kAndI c es ρ v σ (some false) = .ok v σ := rfl
theorem e_or1 (e : PE) : evOr c (.cons e .nil) ρ σ = ev c e 0 ρ σ := rfl
theorem e_or2 (e e' : PE) (es : PEs) : evOr c (.cons e (.cons e' es)) ρ σ = (ev c e 0 ρ σ).bind (kOr c (.cons e' es) ρ) := by
  with_unfolding_all rfl
theorem k_or (es : PEs) (v : PV) : kOr c es ρ v σ = kOrI c es ρ v σ (truth σ v) := rfl
theorem k_or_t (es : PEs) (v : PV) : kOrI c es ρ v σ (some true) = .ok v σ := rfl
theorem k_or_f (es : PEs) (v : PV) : kOrI c es ρ v σ (some false) = evOr c es ρ σ := rfl
theorem x_assign (i : Nat) (e : PE) : exec c (.assign i m e) ρ σ = (ev c e m ρ σ).bind (kAssign ρ i) := rfl
theorem k_assign (i : Nat) (v : PV) : kAssign ρ i v σ = .ok (.next, ρ.set i v) σ := rfl
theorem x_setitem (o i v : PE) : exec c (.setitem o i m v) ρ σ = (ev c v m ρ σ).bind (kSet1 c o i ρ) := by
  with_unfolding_all rfl
theorem k_set1 (o i : PE) (x : PV) : kSet1 c o i ρ x σ = (ev c o 0 ρ σ).bind (kSet2 c i ρ x) := rfl
theorem k_set2 (i : PE) (x a : PV) : kSet2 c i ρ x a σ = (ev c i 0 ρ σ).bind (kSet3 ρ x a) := rfl
theorem k_set3 (x a k : PV) : kSet3 ρ x a k σ = kSet4 ρ (setAt σ a k x) := rfl
theorem k_set4 : kSet4 ρ (some σ) = .ok (.next, ρ) σ := rfl
theorem x_expr (e : PE) : exec c (.expr e) ρ σ = (ev c e 0 ρ σ).bind (kExpr ρ) := rfl
theorem k_expr (v : PV) : kExpr ρ v σ = .ok (.next, ρ) σ := rfl
theorem x_ret (e : PE) : exec c (.ret m e) ρ σ = (ev c e m ρ σ).bind (kRet ρ) := rfl
theorem k_ret (v : PV) : kRet ρ v σ = .ok (.ret v, ρ) σ := rfl
theorem x_ite (t : PE) (b o : PSs) : exec c (.ite t b o) ρ σ = (ev c t 0 ρ σ).bind (kIf c b o ρ) := by
  with_unfolding_all rfl
theorem k_if (b o : PSs) (x : PV) : kIf c b o ρ x σ = kIfI c b o ρ σ (truth σ x) := rfl
theorem k_if_t (b o : PSs) : kIfI c b o ρ σ (some true) = execs c b ρ σ := rfl
theorem k_if_f (b o : PSs) : kIfI c b o ρ σ (some false) = execs c o ρ σ := rfl
theorem x_for (t : Tgt) (it : PE) (body : PSs) (ks : List Nat) : exec c (.forS t it body ks) ρ σ = (ev c it 0 ρ σ).bind (kFor c t body ks ρ) := by
  with_unfolding_all rfl
theorem k_for (t : Tgt) (body : PSs) (ks : List Nat) (v : PV) : kFor c t body ks ρ v σ = kForI c t body ks ρ v σ (items σ v) := rfl
theorem k_forI (t : Tgt) (body : PSs) (ks : List Nat) (v : PV) (l : List PV) : kForI c t body ks ρ v σ (some l) = unlock v (lkV σ v) (forL (execs c body) t ks l ρ (lockV σ v true)) := rfl
theorem x_nil : execs c .nil ρ σ = .ok (.next, ρ) σ := rfl
theorem x_cons (s : PS) (ss : PSs) : execs c (.cons s ss) ρ σ = (exec c s ρ σ).bind (kSeq c ss) := by
  with_unfolding_all rfl
theorem k_seq (ss : PSs) (f : Flw) (ρ : List PV) : kSeq c ss (f, ρ) σ = kSeqI c ss ρ σ f := rfl
theorem k_seq_n (ss : PSs) : kSeqI c ss ρ σ .next = execs c ss ρ σ := rfl
theorem k_seq_r (ss : PSs) (v : PV) : kSeqI c ss ρ σ (.ret v) = .ok (.ret v, ρ) σ := rfl
end
theorem callD_s {G : Glob} {F : Str} {Fn : Fn} (h : G.fn F = some Fn) (d : Nat) (args : List PV) (σ : AH) : callD G (d + 1) F args σ = runFn ⟨G.const, callD G d⟩ Fn args σ := by rw [callD, h]
theorem items_tup (σ : AH) (l : List PV) : items σ (.tup l) = some l := rfl
theorem items_lst (σ : AH) (l : List PV) : items σ (.lst l) = some l := rfl
theorem items_rng (σ : AH) (a b : Int) : items σ (.rng a b) = some (rngInts a b) := rfl
theorem items_dct (σ : AH) (l : List (Str × PV)) : items σ (.dct l) = some (l.map fun kv => .str kv.1) := rfl
theorem lkV_tup (σ : AH) (l : List PV) : lkV σ (.tup l) = false := rfl
theorem lkV_lst (σ : AH) (l : List PV) : lkV σ (.lst l) = false := rfl
theorem lkV_rng (σ : AH) (a b : Int) : lkV σ (.rng a b) = false := rfl
theorem lkV_dct (σ : AH) (l : List (Str × PV)) : lkV σ (.dct l) = false := rfl
theorem lockV_tup (σ : AH) (l : List PV) (b : Bool) : lockV σ (.tup l) b = σ := rfl
theorem lockV_lst (σ : AH) (l : List PV) (b : Bool) : lockV σ (.lst l) b = σ := rfl
theorem lockV_rng (σ : AH) (x y : Int) (b : Bool) : lockV σ (.rng x y) b = σ := rfl
theorem lockV_dct (σ : AH) (l : List (Str × PV)) (b : Bool) : lockV σ (.dct l) b = σ := rfl
theorem unlk_ok {α : Type} (v : PV) (b : Bool) (a : α) (σ : AH) : unlock v b (.ok a σ) = .ok a (lockV σ v b) := rfl
theorem box_0 (f : Frs) (σ : AH) : box 0 f σ = .ok f.val σ := rfl
theorem box_1 (f : Frs) (σ : AH) : box 1 f σ = .ok (.ref σ.length) (σ ++ [f.obj]) := rfl
theorem val_list (l : List PV) : (Frs.list l).val = .lst l := rfl
theorem val_dict (l : List (Str × PV)) : (Frs.dict l).val = .dct l := rfl
theorem obj_list (l : List PV) : (Frs.list l).obj = .list false l := rfl
theorem obj_dict (l : List (Str × PV)) : (Frs.dict l).obj = .dict false l := rfl
end Mine

set_option autoImplicit false
set_option backward.match.sparseCases true
namespace Mine
open PySem

theorem strLt_irr (x : Str) : strLt x x = false := by simp [strLt]
theorem str_ext {x y : Str} (h : x.cps.toList = y.cps.toList) : x = y := by
  cases x; cases y; simp only [Str.mk.injEq]; exact Array.ext' h
theorem strLt_total {x y : Str} (h1 : strLt x y = false) (h2 : strLt y x = false) : x = y := by
  simp only [strLt, decide_eq_false_iff_not] at h1 h2
  exact str_ext (List.le_antisymm h2 h1)
theorem sortS_perm (l : List Str) : (sortS l).Perm l := List.mergeSort_perm ..
theorem strLe_trans {a b c : Str} (h1 : (!strLt b a) = true) (h2 : (!strLt c b) = true) : (!strLt c a) = true := by
  simp only [strLt, Bool.not_eq_true', decide_eq_false_iff_not] at *
  exact List.le_trans h1 h2
theorem strLe_total (a b : Str) : ((!strLt b a) || (!strLt a b)) = true := by
  simp only [strLt, Bool.or_eq_true, Bool.not_eq_true', decide_eq_false_iff_not]
  exact List.le_total a.cps.toList b.cps.toList
theorem sortS_sorted (l : List Str) : (sortS l).Pairwise fun a b => strLt b a = false := by
  have := List.pairwise_mergeSort (le := fun a b => !strLt b a) (fun a b c => strLe_trans) strLe_total l
  exact this.imp fun h => by simpa using h
theorem sortS_unique {l l' : List Str} (hp : l'.Perm l) (hs : l'.Pairwise fun a b => strLt b a = false) : l' = sortS l :=
  List.Perm.eq_of_pairwise (le := fun a b => strLt b a = false) (fun _ _ _ _ h1 h2 => strLt_total h2 h1) hs (sortS_sorted l) (hp.trans (sortS_perm l).symm)


theorem strLt_trans {a b c : Str} (h1 : strLt a b = true) (h2 : strLt b c = true) : strLt a c = true := by
  simp only [strLt, decide_eq_true_eq] at *
  exact List.lt_trans h1 h2
theorem strLt_of_le_ne {a b : Str} (h : strLt b a = false) (hn : a ≠ b) : strLt a b = true := by
  cases hq : strLt a b with
  | true => rfl
  | false => exact absurd (strLt_total hq h) hn
theorem strLt_asymm {a b : Str} (h : strLt a b = true) : strLt b a = false := by
  cases hq : strLt b a with
  | false => rfl
  | true => have := strLt_trans h hq; rw [strLt_irr] at this; exact nomatch this
end Mine

set_option autoImplicit false
set_option backward.match.sparseCases true
set_option linter.unusedSimpArgs false
set_option linter.unusedVariables false
namespace Mine
open PySem

/-! ### loops -/
theorem forL_step {body : List PV → AH → Res FE} {t : Tgt} {ks : List Nat} {x : PV} {xs ρ ρ1 ρ2 : List PV} {σ σ2 : AH} (h1 : bindT t x (kill ks ρ) = some ρ1) (h2 : body ρ1 σ = .ok (.next, ρ2) σ2) :
    forL body t ks (x :: xs) ρ σ = forL body t ks xs ρ2 σ2 := by
  conv => lhs; unfold forL
  rw [h1]
  show Res.bind (body ρ1 σ) _ = _
  rw [h2]
  rfl
theorem forL_inv {body : List PV → AH → Res FE} {t : Tgt} {ks : List Nat} (I : Nat → List PV → AH → Prop) (xs : List PV) : ∀ (k : Nat) (ρ : List PV) (σ : AH),
    (∀ j x ρ σ, xs[j]? = some x → I (k + j) (kill ks ρ) σ → ∃ ρ1 ρ2 σ2, bindT t x (kill ks ρ) = some ρ1 ∧ body ρ1 σ = .ok (.next, ρ2) σ2 ∧ I (k + j + 1) (kill ks ρ2) σ2) →
    I k (kill ks ρ) σ → ∃ ρ' σ', forL body t ks xs ρ σ = .ok (.next, kill ks ρ') σ' ∧ I (k + xs.length) (kill ks ρ') σ' := by
  induction xs with
  | nil => exact fun k ρ σ _ h => ⟨ρ, σ, rfl, h⟩
  | cons x xs ih =>
    intro k ρ σ hs h
    obtain ⟨ρ1, ρ2, σ2, h1, h2, h3⟩ := hs 0 x ρ σ rfl h
    obtain ⟨ρ', σ', h4, h5⟩ := ih (k + 1) ρ2 σ2 (fun j y ρ3 σ3 hy hI => by
      have := hs (j + 1) y ρ3 σ3 hy (show I (k + j + 1) _ _ from Nat.add_right_comm k 1 j ▸ hI)
      rw [← Nat.add_assoc, Nat.add_right_comm k j 1] at this
      exact this) h3
    refine ⟨ρ', σ', ?_, show I (k + xs.length + 1) _ _ from Nat.add_right_comm k 1 xs.length ▸ h5⟩
    rw [forL_step h1 h2]
    exact h4

theorem forL_const {body : List PV → AH → Res FE} {t : Tgt} {ks : List Nat} {ρ0 : List PV} (P : Nat → AH → Prop) (xs : List PV) {ρ : List PV} {σ : AH}
    (hs : ∀ k x σ, xs[k]? = some x → P k σ → ∃ ρ1 ρ2 σ2, bindT t x ρ0 = some ρ1 ∧ body ρ1 σ = .ok (.next, ρ2) σ2 ∧ kill ks ρ2 = ρ0 ∧ P (k + 1) σ2)
    (h0 : kill ks ρ = ρ0) (hP : P 0 σ) : ∃ σ', forL body t ks xs ρ σ = .ok (.next, ρ0) σ' ∧ P xs.length σ' := by
  obtain ⟨ρ', σ', h1, h2, h3⟩ := forL_inv (body := body) (t := t) (ks := ks) (fun k ρ σ => ρ = ρ0 ∧ P k σ) xs 0 ρ σ (fun j x ρ σ hx ⟨e, hp⟩ => by
    obtain ⟨ρ1, ρ2, σ2, a1, a2, a3, a4⟩ := hs j x σ hx (Nat.zero_add j ▸ hp)
    exact ⟨ρ1, ρ2, σ2, e.symm ▸ a1, a2, a3, (Nat.zero_add j).symm ▸ a4⟩) ⟨h0, hP⟩
  exact ⟨σ', h2 ▸ h1, Nat.zero_add xs.length ▸ h3⟩

/-! ### values without references -/
theorem frzW_pure (d : Nat → Option PV) (v : PV) : pureV v = true → frzW d v = some v :=
  PV.rec (motive_1 := fun v => pureV v = true → frzW d v = some v) (motive_2 := fun l => pureVs l = true → frzWs d l = some l) (motive_3 := fun _ => True) (motive_4 := fun _ => True)
    (fun h => nomatch h) (fun h => nomatch h) (fun _ h => nomatch h) (fun _ _ => rfl) (fun _ _ => rfl) (fun l ih h => congrArg (Option.map PV.tup) (ih h)) (fun _ _ h => nomatch h) (fun _ _ h => nomatch h) (fun _ _ h => nomatch h) (fun _ h => nomatch h)
    (fun _ => rfl) (fun v r iv ir h => (congrArg (fun o => Option.bind o fun x => (frzWs d r).map (x :: ·)) (iv (Bool.and_eq_true_iff.mp h).1)).trans (congrArg (Option.map (v :: ·)) (ir (Bool.and_eq_true_iff.mp h).2)))
    trivial (fun _ _ _ _ => trivial) (fun _ _ _ => trivial) v
theorem frzWs_pure (d : Nat → Option PV) (l : List PV) (h : pureVs l = true) : frzWs d l = some l := by
  induction l with
  | nil => rfl
  | cons v r ih =>
    have h := Bool.and_eq_true_iff.mp h
    show (frzW d v).bind _ = _
    rw [frzW_pure d v h.1]
    exact congrArg (Option.map (v :: ·)) (ih h.2)
theorem frz_pure {n k : Nat} {σ : AH} {v : PV} (h : pureV v = true) : frz n σ k v = some v := by
  cases k <;> exact frzW_pure _ v h
theorem pvEq_refl (v : PV) : pureV v = true → pvEq v v = true :=
  PV.rec (motive_1 := fun v => pureV v = true → pvEq v v = true) (motive_2 := fun l => pureVs l = true → pvEqs l l = true) (motive_3 := fun _ => True) (motive_4 := fun _ => True)
    (fun h => nomatch h) (fun h => nomatch h) (fun _ h => nomatch h) (fun i _ => beq_self_eq_true i) (fun x _ => beq_self_eq_true x) (fun l ih h => ih h) (fun _ _ h => nomatch h) (fun _ _ h => nomatch h) (fun _ _ h => nomatch h) (fun _ h => nomatch h)
    (fun _ => rfl) (fun v r iv ir h => Bool.and_eq_true_iff.mpr ⟨iv (Bool.and_eq_true_iff.mp h).1, ir (Bool.and_eq_true_iff.mp h).2⟩)
    trivial (fun _ _ _ _ => trivial) (fun _ _ _ => trivial) v
theorem pureVs_iff {l : List PV} : pureVs l = true ↔ ∀ v ∈ l, pureV v = true := by
  induction l with
  | nil => exact ⟨fun _ _ h => (List.not_mem_nil h).elim, fun _ => rfl⟩
  | cons v r ih =>
    refine ⟨fun h x hx => ?_, fun h => Bool.and_eq_true_iff.mpr ⟨h v (List.mem_cons_self ..), ih.mpr fun x hx => h x (List.mem_cons_of_mem _ hx)⟩⟩
    have h := Bool.and_eq_true_iff.mp h
    exact (List.mem_cons.mp hx).elim (fun e => e ▸ h.1) (ih.mp h.2 x)
theorem deeps_le {n : Nat} {l : List PV} : (∀ v ∈ l, deep v ≤ n) → deeps l ≤ n := by
  induction l with
  | nil => exact fun _ => Nat.zero_le _
  | cons v r ih => exact fun h => Nat.max_le.mpr ⟨h v (List.mem_cons_self ..), ih fun x hx => h x (List.mem_cons_of_mem _ hx)⟩

/-! ### dicts of numbers -/
noncomputable abbrev DI := List (Str × Int)
noncomputable def dv (d : DI) : List (Str × PV) := d.map fun kv => (kv.1, .int kv.2)
/-- a measure as a value -/
noncomputable def mv (d : DI) : PV := .tup (d.map fun kv => .tup [.str kv.1, .int kv.2])
theorem dv_len (d : DI) : (dv d).length = d.length := by simp [dv]
theorem dv_put (d : DI) (k : Str) (v : Int) : dput (dv d) k (.int v) = dv (dput d k v) := by
  unfold dput dv
  simp only [List.any_map, Function.comp_def, List.map_map]
  split
  · rw [List.map_map]
    apply List.map_congr_left
    intro kv _
    simp only [Function.comp]
    split <;> rfl
  · simp
theorem dv_get (d : DI) (k : Str) : dget (dv d) k = (dget d k).map .int := by
  unfold dget dv
  rw [List.find?_map]
  simp only [Function.comp_def, Option.map_map]
theorem dv_getD (d : DI) (k : Str) : ((dget (dv d) k).getD (.int 0)) = .int ((dget d k).getD 0) := by
  rw [dv_get]; cases dget d k <;> rfl
theorem dv_keys (d : DI) : (dv d).map (·.1) = d.map (·.1) := by simp [dv]
theorem mv_pure (d : DI) : pureV (mv d) = true := by
  refine pureVs_iff.mpr fun v hv => ?_
  obtain ⟨kv, _, rfl⟩ := List.mem_map.mp hv
  rfl
theorem mv_deep (d : DI) : deep (mv d) ≤ 2 := by
  refine Nat.succ_le_succ (deeps_le fun v hv => ?_)
  obtain ⟨kv, _, rfl⟩ := List.mem_map.mp hv
  exact Nat.le_refl 1
theorem mv_plain (d : DI) : plain (mv d) = true := Bool.and_eq_true_iff.mpr ⟨mv_pure d, decide_eq_true (Nat.le_trans (mv_deep d) (by decide))⟩
theorem pairsOf_mv (d : DI) : pairsOf (d.map fun kv => .tup [.str kv.1, .int kv.2]) = some (dv d) := by
  induction d with
  | nil => rfl
  | cons kv d ih => exact congrArg (Option.map ((kv.1, PV.int kv.2) :: ·)) ih

theorem dput_mem {α : Type} {d : List (Str × α)} {k x : Str} {v : α} : x ∈ (dput d k v).map (·.1) ↔ x = k ∨ x ∈ d.map (·.1) := by
  unfold dput
  split
  · rename_i h
    rw [List.any_eq_true] at h
    obtain ⟨p, hp, hpk⟩ := h
    have hpk : p.1 = k := by simpa using hpk
    rw [List.map_map]
    have e : ((fun kv : Str × α => kv.1) ∘ fun kv : Str × α => if kv.1 = k then (kv.1, v) else kv) = fun kv => kv.1 := by
      funext kv; simp only [Function.comp]; split <;> rfl
    rw [e]
    constructor
    · exact .inr
    · rintro (rfl | h)
      · exact List.mem_map.mpr ⟨p, hp, hpk⟩
      · exact h
  · simp [or_comm]
theorem dput_keys_hit {α : Type} {d : List (Str × α)} {k : Str} {v : α} (h : k ∈ d.map (·.1)) : (dput d k v).map (·.1) = d.map (·.1) := by
  unfold dput
  rw [if_pos (by obtain ⟨p, hp, e⟩ := List.mem_map.mp h; exact List.any_eq_true.mpr ⟨p, hp, by simpa using e⟩), List.map_map]
  apply List.map_congr_left
  intro kv _
  simp only [Function.comp]; split <;> rfl
theorem dput_new {α : Type} {d : List (Str × α)} {k : Str} {v : α} (h : k ∉ d.map (·.1)) : dput d k v = d ++ [(k, v)] := by
  unfold dput
  rw [if_neg]
  intro q
  obtain ⟨p, hp, e⟩ := List.any_eq_true.mp q
  exact h (List.mem_map.mpr ⟨p, hp, by simpa using e⟩)
theorem dput_nodup {α : Type} {d : List (Str × α)} {k : Str} {v : α} (h : (d.map (·.1)).Nodup) : ((dput d k v).map (·.1)).Nodup := by
  by_cases hk : k ∈ d.map (·.1)
  · rw [dput_keys_hit hk]; exact h
  · rw [dput_new hk, List.map_append]
    exact List.nodup_append.mpr ⟨h, by simp, by rintro a ha b hb rfl; simp at hb; exact hk (hb ▸ ha)⟩
theorem dget_put {α : Type} {d : List (Str × α)} {k x : Str} {v : α} : dget (dput d k v) x = if x = k then some v else dget d x := by
  by_cases hk : k ∈ d.map (·.1)
  · unfold dput
    rw [if_pos (by obtain ⟨p, hp, e⟩ := List.mem_map.mp hk; exact List.any_eq_true.mpr ⟨p, hp, by simpa using e⟩)]
    induction d with
    | nil => simp at hk
    | cons p d ih =>
      unfold dget at *
      simp only [List.map_cons, List.find?_cons]
      by_cases hp : p.1 = k
      · simp only [hp, if_true]
        by_cases hx : x = k
        · simp [hx]
        · have : ¬ k = x := fun q => hx q.symm
          simp only [this, decide_false, if_neg hx]
          have hgen : ∀ d : List (Str × α), Option.map (fun x => x.2) (List.find? (fun kv => decide (kv.1 = x)) (List.map (fun kv => if kv.1 = k then (kv.1, v) else kv) d)) = Option.map (fun x => x.2) (List.find? (fun kv => decide (kv.1 = x)) d) := by
            intro d
            induction d with
            | nil => rfl
            | cons q d ih =>
              simp only [List.map_cons, List.find?_cons]
              by_cases hq : q.1 = k
              · simp only [hq, if_true, this, decide_false]; exact ih
              · simp only [hq, if_false]
                cases h : decide (q.1 = x)
                · exact ih
                · rfl
          exact hgen d
      · simp only [hp, if_false]
        have hk' : k ∈ d.map (·.1) := by
          rcases List.mem_cons.mp hk with h | h
          · exact absurd h.symm hp
          · exact h
        by_cases hx : p.1 = x
        · have : ¬ x = k := fun q => hp (hx.trans q)
          simp [hx, this]
        · simp only [hx, decide_false]
          exact ih hk'
  · rw [dput_new hk]
    unfold dget
    rw [List.find?_append]
    by_cases hx : x = k
    · subst hx
      rw [if_pos rfl, List.find?_eq_none.mpr]
      · simp
      · intro p hp q
        exact hk (List.mem_map.mpr ⟨p, hp, by simpa using q⟩)
    · rw [if_neg hx]
      have : ¬ k = x := fun q => hx q.symm
      simp [this]
theorem dget_mem {α : Type} {d : List (Str × α)} (hn : (d.map (·.1)).Nodup) {k : Str} {v : α} (h : (k, v) ∈ d) : dget d k = some v := by
  induction d with
  | nil => simp at h
  | cons p d ih =>
    unfold dget at *
    rw [List.map_cons, List.nodup_cons] at hn
    rw [List.find?_cons]
    rcases List.mem_cons.mp h with rfl | h
    · simp
    · have : ¬ p.1 = k := fun q => hn.1 (List.mem_map.mpr ⟨(k, v), h, q.symm⟩)
      simp only [this, decide_false]
      exact ih hn.2 h
theorem mem_of_dget {α : Type} {d : List (Str × α)} {k : Str} {v : α} (h : dget d k = some v) : (k, v) ∈ d := by
  unfold dget at h
  obtain ⟨p, hp, rfl⟩ := Option.map_eq_some_iff.mp h
  have h1 := List.find?_some hp
  have h2 := List.mem_of_find?_eq_some hp
  have : p.1 = k := by simpa using h1
  subst this; exact h2
theorem dget_none {α : Type} {d : List (Str × α)} {k : Str} (h : k ∉ d.map (·.1)) : dget d k = none := by
  cases hq : dget d k with
  | none => rfl
  | some v => exact absurd (List.mem_map.mpr ⟨_, mem_of_dget hq, rfl⟩) h
theorem dget_some {α : Type} {d : List (Str × α)} {k : Str} (h : k ∈ d.map (·.1)) : ∃ v, dget d k = some v := by
  cases hq : dget d k with
  | some v => exact ⟨v, rfl⟩
  | none =>
    obtain ⟨p, hp, e⟩ := List.mem_map.mp h
    unfold dget at hq
    have := List.find?_eq_none.mp (Option.map_eq_none_iff.mp hq) p hp
    exact absurd e (by simpa using this)

/-! ### sums of measures -/
noncomputable def putF (d : DI) (ms : DI) (n : Int) : DI := ms.foldl (fun d kv => dput d kv.1 ((dget d kv.1).getD 0 + kv.2 * n)) d
theorem putF_nodup {d ms : DI} {n : Int} (h : (d.map (·.1)).Nodup) : ((putF d ms n).map (·.1)).Nodup := by
  unfold putF
  induction ms generalizing d with
  | nil => exact h
  | cons kv ms ih => exact ih (dput_nodup h)
theorem putF_mem {d ms : DI} {n : Int} {x : Str} : x ∈ (putF d ms n).map (·.1) ↔ x ∈ d.map (·.1) ∨ x ∈ ms.map (·.1) := by
  unfold putF
  induction ms generalizing d with
  | nil => simp
  | cons kv ms ih =>
    rw [List.foldl_cons, ih, dput_mem, List.map_cons, List.mem_cons]
    constructor
    · rintro ((h | h) | h)
      · exact .inr (.inl h)
      · exact .inl h
      · exact .inr (.inr h)
    · rintro (h | h | h)
      · exact .inl (.inr h)
      · exact .inl (.inl h)
      · exact .inr h
noncomputable def val (d : DI) (k : Str) : Int := (dget d k).getD 0
theorem putF_val {d ms : DI} {n : Int} (hm : (ms.map (·.1)).Nodup) (k : Str) : val (putF d ms n) k = val d k + val ms k * n := by
  unfold putF
  induction ms generalizing d with
  | nil => simp [val, dget]
  | cons kv ms ih =>
    rw [List.map_cons, List.nodup_cons] at hm
    rw [List.foldl_cons, ih hm.2]
    unfold val
    rw [dget_put]
    by_cases h : k = kv.1
    · subst h
      rw [dget_none hm.1, dget_mem (d := kv :: ms) (by rw [List.map_cons, List.nodup_cons]; exact hm) (List.mem_cons_self ..)]
      simp
    · rw [if_neg h]
      have : dget (kv :: ms) k = dget ms k := by
        unfold dget; rw [List.find?_cons]
        have : ¬ kv.1 = k := fun q => h q.symm
        simp [this]
      rw [this]
theorem putF_len {d ms : DI} {n : Int} : (putF d ms n).length ≤ d.length + ms.length := by
  unfold putF
  induction ms generalizing d with
  | nil => simp
  | cons kv ms ih =>
    rw [List.foldl_cons]
    have h1 : (dput d kv.1 ((dget d kv.1).getD 0 + kv.2 * n)).length ≤ d.length + 1 := by
      unfold dput; split <;> simp
    have := ih (d := dput d kv.1 ((dget d kv.1).getD 0 + kv.2 * n))
    rw [List.length_cons]; exact ar2 h1 this
theorem putF_new {d ms : DI} {n : Int} (hm : (ms.map (·.1)).Nodup) (hd : ∀ x ∈ ms.map (·.1), x ∉ d.map (·.1)) : putF d ms n = d ++ ms.map fun kv => (kv.1, kv.2 * n) := by
  unfold putF
  induction ms generalizing d with
  | nil => simp
  | cons kv ms ih =>
    rw [List.map_cons, List.nodup_cons] at hm
    have h1 := hd kv.1 (by simp)
    rw [List.foldl_cons, dput_new h1, dget_none h1, ih hm.2]
    · simp
    · intro x hx
      rw [List.map_append, List.mem_append]
      rintro (h | h)
      · exact hd x (by rw [List.map_cons]; exact List.mem_cons_of_mem _ hx) h
      · simp at h; subst h; exact hm.1 hx
theorem putF_one {ms : DI} (hm : (ms.map (·.1)).Nodup) : putF [] ms 1 = ms := by
  rw [putF_new hm (by simp)]; simp
theorem dictOf_nodup {ms : DI} (hm : (ms.map (·.1)).Nodup) : dictOfPairs (dv ms) = dv ms := by
  have key : ∀ (ms d : DI), (ms.map (·.1)).Nodup → (∀ x ∈ ms.map (·.1), x ∉ d.map (·.1)) → (dv ms).foldl (fun d kv => dput d kv.1 kv.2) (dv d) = dv (d ++ ms) := by
    intro ms
    induction ms with
    | nil => intro d _ _; simp [dv]
    | cons kv ms ih =>
      intro d hm hd
      rw [List.map_cons, List.nodup_cons] at hm
      have h1 := hd kv.1 (by simp)
      show (dv ms).foldl _ (dput (dv d) kv.1 (.int kv.2)) = _
      rw [dv_put, dput_new h1, ih _ hm.2]
      · simp
      · intro x hx
        rw [List.map_append, List.mem_append]
        rintro (h | h)
        · exact hd x (by rw [List.map_cons]; exact List.mem_cons_of_mem _ hx) h
        · simp at h; subst h; exact hm.1 hx
  have := key ms [] hm (by simp)
  exact this

/-! ### the sorted measure of a dict -/
noncomputable def madeL (d : DI) : DI := (sortS (d.map (·.1))).filterMap fun k => if val d k ≠ 0 then some (k, val d k) else none
theorem mem_of_nodup_le {α : Type} [DecidableEq α] : ∀ {l m : List α}, l.Nodup → (∀ x ∈ l, x ∈ m) → l.length ≤ m.length
  | [], m, _, _ => Nat.zero_le _
  | x :: l, m, hn, hs => by
    rw [List.nodup_cons] at hn
    have hx := hs x (List.mem_cons_self ..)
    have h1 := mem_of_nodup_le (l := l) (m := m.erase x) hn.2 (fun y hy => by
      have hne : y ≠ x := fun q => hn.1 (q ▸ hy)
      exact (List.mem_erase_of_ne hne).mpr (hs y (List.mem_cons_of_mem _ hy)))
    rw [List.length_erase_of_mem hx] at h1
    have := List.length_pos_of_mem hx
    rw [List.length_cons]; exact ar1 h1 this

/-- a measure: keys rising, none empty, no nought -/
noncomputable def Meas (d : DI) : Prop := d.Pairwise (fun a b => strLt a.1 b.1 = true) ∧ ∀ kv ∈ d, kv.1 ≠ (⟨#[]⟩ : Str) ∧ kv.2 ≠ 0
theorem Meas.nodup {d : DI} (h : Meas d) : (d.map (·.1)).Nodup := by
  rw [List.Nodup, List.pairwise_map]
  exact h.1.imp fun {a b} hab q => by rw [q, strLt_irr] at hab; exact nomatch hab
theorem sortS_nodup {l : List Str} (h : l.Nodup) : (sortS l).Pairwise fun a b => strLt a b = true := by
  have h1 := sortS_sorted l
  have h2 : (sortS l).Nodup := (sortS_perm l).symm.nodup h
  exact (h1.and h2).imp fun ⟨a, b⟩ => strLt_of_le_ne a b
theorem madeL_mem {d : DI} {kv : Str × Int} (h : kv ∈ madeL d) : kv.1 ∈ d.map (·.1) ∧ kv.2 = val d kv.1 ∧ kv.2 ≠ 0 := by
  unfold madeL at h
  obtain ⟨k, hk, e⟩ := List.mem_filterMap.mp h
  split at e
  · cases e; exact ⟨(sortS_perm _).mem_iff.mp hk, rfl, by assumption⟩
  · exact nomatch e
theorem madeL_meas {d : DI} (hn : (d.map (·.1)).Nodup) (he : ∀ k ∈ d.map (·.1), k ≠ (⟨#[]⟩ : Str)) : Meas (madeL d) := by
  refine ⟨?_, fun kv h => ⟨he _ (madeL_mem h).1, (madeL_mem h).2.2⟩⟩
  unfold madeL
  refine List.Pairwise.filterMap _ ?_ (sortS_nodup hn)
  intro a b hab x hx y hy
  split at hx <;> split at hy <;> simp_all
  obtain ⟨rfl, rfl⟩ := hx; obtain ⟨rfl, rfl⟩ := hy; exact hab
theorem sortS_fix {l : List Str} (h : l.Pairwise fun a b => strLt a b = true) : sortS l = l :=
  (sortS_unique (.refl _) (h.imp strLt_asymm)).symm
theorem madeL_fix {d : DI} (h : Meas d) : madeL d = d := by
  unfold madeL
  rw [sortS_fix (List.pairwise_map.mpr h.1), List.filterMap_map]
  have : ∀ kv ∈ d, ((fun k => if val d k ≠ 0 then some (k, val d k) else none) ∘ fun x : Str × Int => x.1) kv = some kv := by
    intro kv hkv
    have : val d kv.1 = kv.2 := by unfold val; rw [dget_mem h.nodup (v := kv.2) hkv]; rfl
    simp only [Function.comp, this, if_pos (h.2 kv hkv).2]
  have key : ∀ (l : DI) (f : Str × Int → Option (Str × Int)), (∀ kv ∈ l, f kv = some kv) → l.filterMap f = l := by
    intro l f
    induction l with
    | nil => intro _; rfl
    | cons a l ih => intro hf; rw [List.filterMap_cons, hf a (List.mem_cons_self ..)]; simp only; rw [ih fun kv hkv => hf kv (List.mem_cons_of_mem _ hkv)]
  exact key d _ this
theorem madeL_zero {d : DI} (h : ∀ k, val d k = 0) : madeL d = [] := by
  unfold madeL
  simp [h]
theorem val_mem {d : DI} (hn : (d.map (·.1)).Nodup) {kv : Str × Int} (h : kv ∈ d) : val d kv.1 = kv.2 := by unfold val; rw [dget_mem hn (v := kv.2) h]; rfl
theorem val_bd {d : DI} {B : Nat} (h : ∀ kv ∈ d, kv.2.natAbs ≤ B) (k : Str) : (val d k).natAbs ≤ B := by
  unfold val
  cases hq : dget d k with
  | none => simp
  | some v => exact h _ (mem_of_dget hq)
end Mine

set_option autoImplicit false
set_option backward.match.sparseCases true
namespace Mine
open PySem

/-- ghost state: where the tracked objects lie; which addresses are frozen; which are locked -/
structure Cfg where
  μ : List Addr
  Φ : Addr → Prop
  lk : Addr → Prop

section
variable (prog : Program) (w : World) (g : Cfg) (h : Heap)

noncomputable def IsRng (h : Heap) (a : Addr) (lo hi : Int) : Prop := lo.natAbs ≤ 1000000 ∧ hi.natAbs ≤ 1000000 ∧ ∃ t u v, IsRange h a lo hi 1 t u v

noncomputable def IsTupX (h : Heap) (a : Addr) (vs : Array Value) : Prop := ∃ n, h.get? a = some { cls := .type "tuple", dict := none, data := .seq vs n, slots := #[] }

noncomputable def IsListX (h : Heap) (a : Addr) (vs : Array Value) : Prop := ∃ n, h.get? a = some { cls := .type "list", dict := none, data := .seq vs n, slots := #[] }

mutual
inductive VR : PV → Value → Prop where
  | none : VR .none .none
  | bool (b : Bool) : VR (.bool b) (.bool b)
  | int (i : Int) (t : Tok) : VR (.int i) (.int i t)
  | str (x : Str) (t : Tok) : VR (.str x) (.str x t)
  | tup {l : List PV} {a : Addr} {vs : Array Value} : g.Φ a → IsTupX h a vs → VRs l vs.toList → VR (.tup l) (.ref a)
  | lst {l : List PV} {a : Addr} {vs : Array Value} : g.Φ a → IsListX h a vs → VRs l vs.toList → VR (.lst l) (.ref a)
  | dct {l : List (Str × PV)} {a : Addr} {kvs : List (Str × Value)} : g.Φ a → a ≠ sysModules → h.DictOf (strKind prog w) a kvs → VRd l kvs → VR (.dct l) (.ref a)
  | rng {lo hi : Int} {a : Addr} : g.Φ a → IsRng h a lo hi → VR (.rng lo hi) (.ref a)
  | ref {i : Nat} {a : Addr} : g.μ[i]? = some a → VR (.ref i) (.ref a)
inductive VRs : List PV → List Value → Prop where
  | nil : VRs [] []
  | cons {v : PV} {x : Value} {l : List PV} {r : List Value} : VR v x → VRs l r → VRs (v :: l) (x :: r)
inductive VRd : List (Str × PV) → List (Str × Value) → Prop where
  | nil : VRd [] []
  | cons {k : Str} {v : PV} {x : Value} {l : List (Str × PV)} {r : List (Str × Value)} : VR v x → VRd l r → VRd ((k, v) :: l) ((k, x) :: r)
end

noncomputable def OR : AObj → Addr → Prop
  | .list b l, a => (b = true ↔ g.lk a) ∧ ∃ vs, IsListX h a vs ∧ VRs prog w g h l vs.toList
  | .dict b l, a => (b = true ↔ g.lk a) ∧ ∃ kvs, h.DictOf (strKind prog w) a kvs ∧ VRd prog w g h l kvs

structure Rel (B : Heap) (σ : AH) : Prop where
  len : g.μ.length = σ.length
  nodup : g.μ.Nodup
  disj : ∀ a ∈ g.μ, ¬ g.Φ a
  lkμ : ∀ a, g.lk a → a ∈ g.μ
  live : ∀ a, g.Φ a → (h.get? a).isSome = true
  base : ∀ b o, B.get? b = some o → h.get? b = some o
  baseμ : ∀ a ∈ g.μ, B.get? a = none
  objs : ∀ (i : Nat) o a, σ[i]? = some o → g.μ[i]? = some a → OR prog w g h o a
end

/-- what a step may do -/
structure Ext (own : Addr → Prop) (g : Cfg) (s : Shared) (g' : Cfg) (s' : Shared) : Prop where
  pre : g.μ <+: g'.μ
  sub : ∀ a, g.Φ a → g'.Φ a
  newμ : ∀ a ∈ g'.μ, a ∈ g.μ ∨ s.heap.get? a = none
  newΦ : ∀ a, g'.Φ a → g.Φ a ∨ s.heap.get? a = none
  lock : g'.lk = g.lk
  keep : ∀ b o, s.heap.get? b = some o → (b ∉ g.μ ∨ g.lk b) → ¬ own b → s'.heap.get? b = some o
  live : ∀ b, (s.heap.get? b).isSome = true → (s'.heap.get? b).isSome = true
  gens : s'.gens = s.gens
  os : s'.os = s.os

noncomputable abbrev noOwn : Addr → Prop := fun _ => False

theorem isSome_of {α : Type} {x : Option α} {a : α} (h : x = some a) : x.isSome = true := by rw [h]; rfl
theorem none_of_live {s s' : Shared} (hl : ∀ b, (s.heap.get? b).isSome = true → (s'.heap.get? b).isSome = true) {b : Addr} (e : s'.heap.get? b = none) : s.heap.get? b = none := by
  cases hq : s.heap.get? b with
  | none => rfl
  | some o => have := hl b (isSome_of hq); rw [e] at this; cases this

namespace Ext
variable {own own' : Addr → Prop} {g g' g'' : Cfg} {s s' s'' : Shared}

theorem refl (g : Cfg) (s : Shared) : Ext own g s g s :=
  ⟨List.prefix_refl _, fun _ h => h, fun _ h => .inl h, fun _ h => .inl h, rfl, fun _ _ e _ _ => e, fun _ h => h, rfl, rfl⟩

theorem notμ (e : Ext own g s g' s') {b : Addr} {o : Obj} (hb : s.heap.get? b = some o) (hn : b ∉ g.μ) : b ∉ g'.μ := fun hm =>
  (e.newμ b hm).elim hn fun hq => by rw [hb] at hq; cases hq
theorem notΦ (e : Ext own g s g' s') {b : Addr} {o : Obj} (hb : s.heap.get? b = some o) (hn : ¬ g.Φ b) : ¬ g'.Φ b := fun hm =>
  (e.newΦ b hm).elim hn fun hq => by rw [hb] at hq; cases hq

theorem trans (x : Ext own g s g' s') (y : Ext own g' s' g'' s'') : Ext own g s g'' s'' where
  pre := x.pre.trans y.pre
  sub := fun a h => y.sub a (x.sub a h)
  newμ := fun a h => (y.newμ a h).elim (x.newμ a) fun q => .inr (none_of_live x.live q)
  newΦ := fun a h => (y.newΦ a h).elim (x.newΦ a) fun q => .inr (none_of_live x.live q)
  lock := y.lock.trans x.lock
  keep := fun b o e hn ho => y.keep b o (x.keep b o e hn ho) (hn.imp (x.notμ e) fun q => x.lock ▸ q) ho
  live := fun b h => y.live b (x.live b h)
  gens := y.gens.trans x.gens
  os := y.os.trans x.os

theorem mono (x : Ext own g s g' s') (h : ∀ a, own a → own' a) : Ext own' g s g' s' :=
  { x with keep := fun b o e hn ho => x.keep b o e hn fun q => ho (h b q) }
theorem weaken (x : Ext noOwn g s g' s') : Ext own g s g' s' := x.mono fun _ h => h.elim

/-- tokens do not matter -/
theorem toks {t : Nat} (x : Ext own g s g' s') : Ext own g s g' { s' with toks := t } :=
  { x with }
theorem toks_left {t : Nat} (x : Ext own g { s with toks := t } g' s') : Ext own g s g' s' :=
  { x with }
end Ext

section
variable {prog : Program} {w : World} {g g' : Cfg} {h h' : Heap}

theorem VR.ind {P : PV → Value → Prop} {Q : List PV → List Value → Prop} {S : List (Str × PV) → List (Str × Value) → Prop}
    (h1 : P .none .none) (h2 : ∀ b, P (.bool b) (.bool b)) (h3 : ∀ i t, P (.int i) (.int i t)) (h4 : ∀ x t, P (.str x) (.str x t))
    (h5 : ∀ l a vs, g.Φ a → IsTupX h a vs → VRs prog w g h l vs.toList → Q l vs.toList → P (.tup l) (.ref a))
    (h6 : ∀ l a vs, g.Φ a → IsListX h a vs → VRs prog w g h l vs.toList → Q l vs.toList → P (.lst l) (.ref a))
    (h7 : ∀ l a kvs, g.Φ a → a ≠ sysModules → h.DictOf (strKind prog w) a kvs → VRd prog w g h l kvs → S l kvs → P (.dct l) (.ref a))
    (h8 : ∀ lo hi a, g.Φ a → IsRng h a lo hi → P (.rng lo hi) (.ref a)) (h9 : ∀ i a, g.μ[i]? = some a → P (.ref i) (.ref a))
    (h10 : Q [] []) (h11 : ∀ v x l r, VR prog w g h v x → VRs prog w g h l r → P v x → Q l r → Q (v :: l) (x :: r))
    (h12 : S [] []) (h13 : ∀ k v x l r, VR prog w g h v x → VRd prog w g h l r → P v x → S l r → S ((k, v) :: l) ((k, x) :: r)) :
    (∀ {v x}, VR prog w g h v x → P v x) ∧ (∀ {l r}, VRs prog w g h l r → Q l r) ∧ ∀ {l r}, VRd prog w g h l r → S l r :=
  ⟨fun q => q.rec (motive_1 := fun v x _ => P v x) (motive_2 := fun l r _ => Q l r) (motive_3 := fun l r _ => S l r) h1 h2 h3 h4 (fun a b c d => h5 _ _ _ a b c d) (fun a b c d => h6 _ _ _ a b c d) (fun a b c d e => h7 _ _ _ a b c d e) (fun a b => h8 _ _ _ a b) (fun a => h9 _ _ a) h10 (fun a b c d => h11 _ _ _ _ a b c d) h12 (fun a b c d => h13 _ _ _ _ _ a b c d),
   fun q => q.rec (motive_1 := fun v x _ => P v x) (motive_2 := fun l r _ => Q l r) (motive_3 := fun l r _ => S l r) h1 h2 h3 h4 (fun a b c d => h5 _ _ _ a b c d) (fun a b c d => h6 _ _ _ a b c d) (fun a b c d e => h7 _ _ _ a b c d e) (fun a b => h8 _ _ _ a b) (fun a => h9 _ _ a) h10 (fun a b c d => h11 _ _ _ _ a b c d) h12 (fun a b c d => h13 _ _ _ _ _ a b c d),
   fun q => q.rec (motive_1 := fun v x _ => P v x) (motive_2 := fun l r _ => Q l r) (motive_3 := fun l r _ => S l r) h1 h2 h3 h4 (fun a b c d => h5 _ _ _ a b c d) (fun a b c d => h6 _ _ _ a b c d) (fun a b c d e => h7 _ _ _ a b c d e) (fun a b => h8 _ _ _ a b) (fun a => h9 _ _ a) h10 (fun a b c d => h11 _ _ _ _ a b c d) h12 (fun a b c d => h13 _ _ _ _ _ a b c d)⟩
theorem VR.mono3 (hp : g.μ <+: g'.μ) (hs : ∀ a, g.Φ a → g'.Φ a) (hk : ∀ a o, g.Φ a → h.get? a = some o → h'.get? a = some o) :
    (∀ {v x}, VR prog w g h v x → VR prog w g' h' v x) ∧ (∀ {l r}, VRs prog w g h l r → VRs prog w g' h' l r) ∧ ∀ {l r}, VRd prog w g h l r → VRd prog w g' h' l r :=
  VR.ind .none .bool .int .str (fun _ _ _ ha ho _ q => .tup (hs _ ha) (ho.elim fun n e => ⟨n, hk _ _ ha e⟩) q) (fun _ _ _ ha ho _ q => .lst (hs _ ha) (ho.elim fun n e => ⟨n, hk _ _ ha e⟩) q)
    (fun _ _ _ ha hm ho _ q => .dct (hs _ ha) hm (let ⟨o, es, ep, e, r⟩ := ho; ⟨o, es, ep, hk _ _ ha e, r⟩) q) (fun _ _ _ ha ho => .rng (hs _ ha) (let ⟨b1, b2, t, u, v, e⟩ := ho; ⟨b1, b2, t, u, v, hk _ _ ha e⟩))
    (fun _ _ hi => .ref (by
      obtain ⟨t, ht⟩ := hp
      have hlt := (List.getElem?_eq_some_iff.mp hi).1
      rw [← ht, List.getElem?_append_left hlt]; exact hi)) .nil (fun _ _ _ _ _ _ a b => .cons a b) .nil (fun _ _ _ _ _ _ _ a b => .cons a b)
theorem VR.mono (hp : g.μ <+: g'.μ) (hs : ∀ a, g.Φ a → g'.Φ a) (hk : ∀ a o, g.Φ a → h.get? a = some o → h'.get? a = some o) {v : PV} {x : Value} : VR prog w g h v x → VR prog w g' h' v x := (VR.mono3 hp hs hk).1
theorem VRs.mono (hp : g.μ <+: g'.μ) (hs : ∀ a, g.Φ a → g'.Φ a) (hk : ∀ a o, g.Φ a → h.get? a = some o → h'.get? a = some o) {l : List PV} {r : List Value} : VRs prog w g h l r → VRs prog w g' h' l r := (VR.mono3 hp hs hk).2.1
theorem VRd.mono (hp : g.μ <+: g'.μ) (hs : ∀ a, g.Φ a → g'.Φ a) (hk : ∀ a o, g.Φ a → h.get? a = some o → h'.get? a = some o) {l : List (Str × PV)} {r : List (Str × Value)} : VRd prog w g h l r → VRd prog w g' h' l r := (VR.mono3 hp hs hk).2.2

theorem isList_of {h : Heap} {a : Addr} {vs : Array Value} (x : IsListX h a vs) : h.IsList a vs := let ⟨n, e⟩ := x; ⟨_, e, rfl, n, rfl⟩
theorem isTuple_of {h : Heap} {a : Addr} {vs : Array Value} (x : IsTupX h a vs) : h.IsTuple a vs := let ⟨n, e⟩ := x; ⟨_, e, rfl, n, rfl⟩

theorem VR.lens : (∀ {v x}, VR prog w g h v x → True) ∧ (∀ {l r}, VRs prog w g h l r → l.length = r.length) ∧ ∀ {l r}, VRd prog w g h l r → l.length = r.length ∧ r.map (·.1) = l.map (·.1) :=
  VR.ind trivial (fun _ => trivial) (fun _ _ => trivial) (fun _ _ => trivial) (fun _ _ _ _ _ _ _ => trivial) (fun _ _ _ _ _ _ _ => trivial) (fun _ _ _ _ _ _ _ _ => trivial) (fun _ _ _ _ _ => trivial) (fun _ _ _ => trivial)
    rfl (fun _ _ _ _ _ _ _ q => congrArg Nat.succ q) ⟨rfl, rfl⟩ (fun _ _ _ _ _ _ _ _ q => ⟨congrArg Nat.succ q.1, congrArg (List.cons _) q.2⟩)
theorem VRs.length {l : List PV} {r : List Value} (q : VRs prog w g h l r) : l.length = r.length := VR.lens.2.1 q
theorem VRd.length {l : List (Str × PV)} {r : List (Str × Value)} (q : VRd prog w g h l r) : l.length = r.length := (VR.lens.2.2 q).1
theorem VRs.get {l : List PV} {r : List Value} (hv : VRs prog w g h l r) : ∀ {i : Nat} {v : PV}, l[i]? = some v → ∃ x, r[i]? = some x ∧ VR prog w g h v x := by
  induction l generalizing r with
  | nil => intro i v e; simp at e
  | cons a l ih =>
    intro i v e
    cases hv with
    | cons ha hl =>
      cases i with
      | zero => simp only [List.getElem?_cons_zero, Option.some.injEq] at e; subst e; exact ⟨_, rfl, ha⟩
      | succ i => simp only [List.getElem?_cons_succ] at e ⊢; exact ih hl e
theorem VRs.append {l₁ l₂ : List PV} {r₁ r₂ : List Value} (h₁ : VRs prog w g h l₁ r₁) (h₂ : VRs prog w g h l₂ r₂) : VRs prog w g h (l₁ ++ l₂) (r₁ ++ r₂) := by
  induction l₁ generalizing r₁ with
  | nil => cases h₁; exact h₂
  | cons a l ih => cases h₁ with | cons ha hl => exact .cons ha (ih hl)
theorem VRs.split {l₁ l₂ : List PV} {r : List Value} (hv : VRs prog w g h (l₁ ++ l₂) r) : ∃ r₁ r₂, r = r₁ ++ r₂ ∧ VRs prog w g h l₁ r₁ ∧ VRs prog w g h l₂ r₂ := by
  induction l₁ generalizing r with
  | nil => exact ⟨[], r, rfl, .nil, hv⟩
  | cons a l ih =>
    cases hv with
    | cons ha hl =>
      obtain ⟨r₁, r₂, rfl, h1, h2⟩ := ih hl
      exact ⟨_ :: r₁, r₂, rfl, .cons ha h1, h2⟩
theorem VRs.take {l : List PV} {r : List Value} (hv : VRs prog w g h l r) (n : Nat) : VRs prog w g h (l.take n) (r.take n) := by
  induction n generalizing l r with
  | zero => simpa using VRs.nil
  | succ n ih => cases hv with
    | nil => simpa using VRs.nil
    | cons a b => simpa using VRs.cons a (ih b)
theorem VRs.drop {l : List PV} {r : List Value} (hv : VRs prog w g h l r) (n : Nat) : VRs prog w g h (l.drop n) (r.drop n) := by
  induction n generalizing l r with
  | zero => simpa using hv
  | succ n ih => cases hv with
    | nil => simpa using VRs.nil
    | cons a b => simpa using ih b
theorem VRd.keys {l : List (Str × PV)} {r : List (Str × Value)} (q : VRd prog w g h l r) : r.map (·.1) = l.map (·.1) := (VR.lens.2.2 q).2
theorem VRd.get {l : List (Str × PV)} {r : List (Str × Value)} (hv : VRd prog w g h l r) (k : Str) : match dget l k with
    | some v => ∃ x, valueAt r k = some x ∧ VR prog w g h v x
    | none => valueAt r k = none := by
  induction l generalizing r with
  | nil => cases hv; simp [dget, valueAt]
  | cons p l ih =>
    cases hv with
    | @cons k' v x _ r ha hl =>
      have := ih hl
      by_cases hk : k' = k
      · subst hk; simpa [dget, valueAt] using ha
      · simpa [dget, valueAt, List.find?_cons, hk] using this
theorem VRd.has {l : List (Str × PV)} {r : List (Str × Value)} (hv : VRd prog w g h l r) (k : Str) : (r.any fun kv => kv.1 = k) = dhas l k := by
  induction l generalizing r with
  | nil => cases hv; rfl
  | cons p l ih => cases hv with | cons _ hl => simp only [List.any_cons, dhas]; rw [ih hl]; rfl
theorem VRd.put {l : List (Str × PV)} {r : List (Str × Value)} (hv : VRd prog w g h l r) {k : Str} {v : PV} {x : Value} (hx : VR prog w g h v x) : VRd prog w g h (dput l k v) (stored r k x) := by
  have hh := hv.has k
  unfold dput stored
  rw [hh]
  show VRd prog w g h (if dhas l k = true then _ else _) (if dhas l k = true then _ else _)
  have h1 : VRd prog w g h (l.map fun kv => if kv.1 = k then (kv.1, v) else kv) (r.map fun kv => if kv.1 = k then (kv.1, x) else kv) := by
    clear hh
    induction l generalizing r with
    | nil => cases hv; exact .nil
    | cons p l ih =>
      cases hv with
      | @cons k' _ _ _ _ ha hl =>
        simp only [List.map_cons]
        by_cases hk : k' = k
        · simp only [hk, if_true]; exact .cons hx (ih hl)
        · simp only [hk, if_false]; exact .cons ha (ih hl)
  have h2 : VRd prog w g h (l ++ [(k, v)]) (r ++ [(k, x)]) := by
    clear hh h1
    induction l generalizing r with
    | nil => cases hv; exact .cons hx .nil
    | cons p l ih => cases hv with | cons ha hl => exact .cons ha (ih hl)
  split
  · exact h1
  · exact h2
theorem VRd.del {l : List (Str × PV)} {r : List (Str × Value)} (hv : VRd prog w g h l r) (k : Str) : VRd prog w g h (ddel l k) (without r k) := by
  unfold ddel without
  induction l generalizing r with
  | nil => cases hv; exact .nil
  | cons p l ih =>
    cases hv with
    | @cons k' _ _ _ _ ha hl =>
      by_cases hk : k' = k
      · simpa [List.filter_cons, hk] using ih hl
      · simpa [List.filter_cons, hk] using VRd.cons ha (ih hl)
end

end Mine

set_option autoImplicit false
set_option backward.match.sparseCases false
namespace Mine
open PySem

/-! The check that a tree of mine says what the syntax says. nm: the scope's names as they are at run time; vm: names and slots. -/

noncomputable abbrev NM := List (Str × NameKind)
noncomputable abbrev VM := List (Str × Nat)

noncomputable def isVar : Option NameKind → Bool
  | some .local | some .cell | some .free => true
  | _ => false
noncomputable def isOwn : Option NameKind → Bool
  | some .local | some .cell => true
  | _ => false
noncomputable def isGlob : Option NameKind → Bool
  | some .globalImplicit => true
  | _ => false
noncomputable def plainName (x : Str) : Bool := !(x == ("__debug__" : Str)) && !(x == ("__classdict__" : Str))

noncomputable def chkNames (nm : NM) (vm : VM) : List Nat → List Expr → Bool
  | [], [] => true
  | i :: is, .Name x _ :: es => vm.lookup x == some i && isOwn (nm.lookup x) && chkNames nm vm is es
  | _, _ => false
noncomputable def chkT (nm : NM) (vm : VM) : Tgt → Expr → Bool
  | .one i, .Name x _ => vm.lookup x == some i && isOwn (nm.lookup x)
  | .many is, .Tuple es _ _ => chkNames nm vm is es
  | _, _ => false

noncomputable def namesOf : List Expr → List Str
  | [] => []
  | .Name x _ :: es => x :: namesOf es
  | _ :: es => namesOf es
noncomputable def tgtNames : Expr → List Str
  | .Name x _ => [x]
  | .Tuple es _ _ => namesOf es
  | _ => []
/-- the run-time names of a comprehension's own block -/
noncomputable def compNames (nm : NM) (own : NM) : NM := own.map fun (n, k) => if k == .free && nm.lookup n == some .cell then (n, .cell) else (n, k)
noncomputable def compVM (vm : VM) (t : Tgt) (e : Expr) : VM := (tgtNames e).zip (tgtSlots t) ++ vm
noncomputable def compScopeOk (nm : NM) (vm : VM) (e : Expr) (sc : Scope) : Bool :=
  sc.kind == .function && decide ((sc.names.map (·.1)).Nodup) && sc.names.all fun (n, k) => match k with
    | .local => (n == (".0" : Str) && (vm.lookup n).isNone) || (tgtNames e).contains n
    | .free => !(tgtNames e).contains n && (vm.lookup n).isSome && (nm.lookup n == some .cell || nm.lookup n == some .free)
    | .globalImplicit => true
    | _ => false

noncomputable def notSlice : Expr → Bool
  | .Slice .. => false
  | _ => true
noncomputable def notStar : Expr → Bool
  | .Starred .. => false
  | _ => true

/-- no call super() -/
noncomputable def plainBase : Expr → Bool
  | .Call (.Name _ _) [] [] _ => false
  | _ => true

noncomputable def Ty.word : Ty → Str
  | .int => "int" | .bool => "bool" | .str => "str" | .tuple => "tuple" | .list => "list" | .dict => "dict"
noncomputable def BI.word : BI → Str
  | .len => "len" | .sorted => "sorted" | .tuple => "tuple" | .dict => "dict" | .str => "str" | .range => "range" | .isinst _ => "isinstance"
noncomputable def BM.word : BM → Str
  | .append => "append" | .get => "get"

noncomputable def okConst : Const → Bool
  | .none | .bool _ | .int _ | .str _ => true
  | _ => false

noncomputable def isTT : PE → Bool
  | .const (.bool true) => true
  | _ => false

noncomputable def ifsOk (tt : Bool) (f : Expr → Bool) : List Expr → Bool
  | [] => tt
  | [e] => f e
  | _ => false

mutual
noncomputable def chkE : PE → NM → VM → Expr → Bool
  | .const c, nm, vm, .Constant c' _ _ => okConst c && decide (c = c')
  | .loc i, nm, vm, .Name x _ => vm.lookup x == some i && isVar (nm.lookup x) && plainName x
  | .andE es, nm, vm, .BoolOp .And vs _ => chkEs es nm vm vs
  | .orE es, nm, vm, .BoolOp .Or vs _ => chkEs es nm vm vs
  | .bin op a b, nm, vm, .BinOp l op' r _ => decide (op = op') && chkE a nm vm l && chkE b nm vm r
  | .notE a, nm, vm, .UnaryOp .Not x _ => chkE a nm vm x
  | .neg a, nm, vm, .UnaryOp .USub x _ => chkE a nm vm x
  | .cmp op a b, nm, vm, .Compare l [op'] [r] _ => decide (op = op') && chkE a nm vm l && chkE b nm vm r
  | .tup es, nm, vm, .Tuple elts _ _ => decide (elts.length < 1000) && chkEs es nm vm elts
  | .lst es, nm, vm, .List elts _ => decide (elts.length < 1000) && chkEs es nm vm elts
  | .edict, nm, vm, .Dict [] [] _ => true
  | .idx a i, nm, vm, .Subscript v ix _ => chkE a nm vm v && chkE i nm vm ix
  | .comp elt t it cond, nm, vm, .ListComp e [⟨tg, it', ifs, ia⟩] sc _ =>
    decide (ia = 0) && chkE it nm vm it' && compScopeOk nm vm tg sc && decide (((compVM vm t tg).map (·.2)).Nodup) && chkT (compNames nm sc.names) (compVM vm t tg) t tg &&
      chkE elt (compNames nm sc.names) (compVM vm t tg) e && ifsOk (isTT cond) (chkE cond (compNames nm sc.names) (compVM vm t tg)) ifs
  | .call f args, nm, vm, .Call (.Name x _) as [] _ => x == f && isGlob (nm.lookup x) && plainName x && chkEs args nm vm as
  | .bi b args, nm, vm, .Call (.Name x _) as [] _ => isGlob (nm.lookup x) && x == b.word && plainName x && (match b, as with
      | .isinst t, [e, .Name y _] => y == t.word && isGlob (nm.lookup y) && plainName y && chkEs args nm vm [e]
      | .isinst _, _ => false
      | _, as => chkEs args nm vm as)
  | .meth o m args, nm, vm, .Call (.Attribute o' name apos) as [] pos => name == m.word && plainBase o' && apos.endLine == pos.line && decide (as.length < 20) && chkE o nm vm o' && chkEs args nm vm as
  | _, _, _, _ => false
noncomputable def chkEs : PEs → NM → VM → List Expr → Bool
  | .nil, nm, vm, [] => true
  | .cons e es, nm, vm, a :: as => chkE e nm vm a && chkEs es nm vm as
  | _, _, _, _ => false
end

noncomputable def isComp : Expr → Bool
  | .ListComp .. | .SetComp .. | .DictComp .. => true
  | _ => false
noncomputable def isTupE : Expr → Bool
  | .Tuple .. => true
  | _ => false

mutual
noncomputable def chkS : PS → NM → VM → Stmt → Bool
  | .assign i _ e, nm, vm, .Assign [.Name x _] v _ => vm.lookup x == some i && isOwn (nm.lookup x) && chkE e nm vm v
  | .setitem o i _ v, nm, vm, .Assign [.Subscript o' i' _] v' _ => chkE o nm vm o' && chkE i nm vm i' && chkE v nm vm v'
  | .expr e, nm, vm, .Expr v _ => !isComp v && chkE e nm vm v
  | .ret _ e, nm, vm, .Return (some v) _ => chkE e nm vm v
  | .ite t b o, nm, vm, .If t' b' o' _ => chkE t nm vm t' && chkSs b nm vm b' && chkSs o nm vm o'
  | .forS t it b _, nm, vm, .For tg it' b' [] _ => chkT nm vm t tg && chkE it nm vm it' && chkSs b nm vm b'
  | _, _, _, _ => false
noncomputable def chkSs : PSs → NM → VM → List Stmt → Bool
  | .nil, nm, vm, [] => true
  | .cons s ss, nm, vm, t :: ts => chkS s nm vm t && chkSs ss nm vm ts
  | _, _, _, _ => false
end
end Mine

set_option autoImplicit false
set_option backward.match.sparseCases true
namespace Mine
open PySem

/-- what does not change over a law's run -/
structure Fix where
  prog : Program
  w : World
  B : Heap
  mg : Str → Option Value
  mb : Str → Option Value

noncomputable abbrev Fix.VR (C : Fix) (g : Cfg) (h : Heap) := Mine.VR C.prog C.w g h
noncomputable abbrev Fix.VRs (C : Fix) (g : Cfg) (h : Heap) := Mine.VRs C.prog C.w g h
noncomputable abbrev Fix.VRd (C : Fix) (g : Cfg) (h : Heap) := Mine.VRd C.prog C.w g h
noncomputable abbrev Fix.OR (C : Fix) (g : Cfg) (h : Heap) := Mine.OR C.prog C.w g h

/-- the relation, with the base frozen -/
structure Fix.Rel (C : Fix) (σ : AH) (g : Cfg) (h : Heap) : Prop where
  rel : Mine.Rel C.prog C.w g h C.B σ
  bas : ∀ b, (C.B.get? b).isSome = true → g.Φ b
  sys : (C.B.get? sysModules).isSome = true

variable {C : Fix} {σ : AH} {g g' : Cfg} {h h' : Heap} {s s' : Shared} {own : Addr → Prop}

/-- own things are neither tracked nor frozen -/
noncomputable def Off (own : Addr → Prop) (g : Cfg) : Prop := ∀ b, own b → b ∉ g.μ ∧ ¬ g.Φ b
theorem Off.none : Off noOwn g := fun _ h => h.elim

theorem Fix.Rel.fresh (R : C.Rel σ g h) {a : Addr} (ha : h.get? a = none) : a ∉ g.μ ∧ ¬ g.Φ a := by
  refine ⟨fun hm => ?_, fun hf => ?_⟩
  · obtain ⟨i, hi⟩ := List.getElem?_of_mem hm
    have hlt : i < σ.length := R.rel.len ▸ (List.getElem?_eq_some_iff.mp hi).1
    have ho := R.rel.objs i σ[i] a (by simp [hlt]) hi
    cases hx : σ[i] with
    | list b l => rw [hx] at ho; obtain ⟨_, vs, ⟨n, e⟩, _⟩ := ho; rw [ha] at e; cases e
    | dict b l => rw [hx] at ho; obtain ⟨_, kvs, ⟨o, es, ep, e, _⟩, _⟩ := ho; rw [ha] at e; cases e
  · have := R.rel.live a hf; rw [ha] at this; cases this
theorem Fix.Rel.base_none (R : C.Rel σ g h) {a : Addr} (ha : ¬ g.Φ a) : C.B.get? a = none := by
  cases hq : C.B.get? a with
  | none => rfl
  | some o => exact absurd (R.bas a (isSome_of hq)) ha

theorem Fix.Rel.notSys (R : C.Rel σ g h) {a : Addr} (ha : ¬ g.Φ a) : a ≠ sysModules := fun e => ha (e ▸ R.bas _ R.sys)

theorem Fix.Rel.new (R : C.Rel σ g s.heap) : s.heap.objs.size ∉ g.μ ∧ ¬ g.Φ s.heap.objs.size := R.fresh (by
  cases hq : s.heap.get? s.heap.objs.size with
  | none => rfl
  | some o => exact absurd (Heap.lt_size hq) (Nat.lt_irrefl _))

theorem get?_size (h : Heap) : h.get? h.objs.size = none := by
  cases hq : h.get? h.objs.size with
  | none => rfl
  | some o => exact absurd (Heap.lt_size hq) (Nat.lt_irrefl _)

/-- the tracked and the frozen things are kept -/
noncomputable def Kept (g : Cfg) (h h' : Heap) : Prop := ∀ b o, h.get? b = some o → (b ∈ g.μ ∨ g.Φ b) → h'.get? b = some o
theorem Kept.of_all (hk : ∀ b o, h.get? b = some o → h'.get? b = some o) : Kept g h h' := fun b o e _ => hk b o e
theorem Kept.of_own (hk : ∀ b o, h.get? b = some o → ¬ own b → h'.get? b = some o) (hoff : Off own g) : Kept g h h' := fun b o e hb => hk b o e fun q => hb.elim (hoff b q).1 (hoff b q).2
theorem Kept.of_but {a : Addr} (hk : ∀ b o, b ≠ a → h.get? b = some o → h'.get? b = some o) (ha : a ∉ g.μ ∧ ¬ g.Φ a) : Kept g h h' := fun b o e hb => hk b o (fun q => by subst q; exact hb.elim ha.1 ha.2) e

theorem VR_kept (hk : Kept g h h') {v : PV} {x : Value} (hv : C.VR g h v x) : C.VR g h' v x := hv.mono (List.prefix_refl _) (fun _ q => q) fun a o ha e => hk a o e (.inr ha)
theorem VRs_kept (hk : Kept g h h') {v : List PV} {x : List Value} (hv : C.VRs g h v x) : C.VRs g h' v x := hv.mono (List.prefix_refl _) (fun _ q => q) fun a o ha e => hk a o e (.inr ha)
theorem VRd_kept (hk : Kept g h h') {v : List (Str × PV)} {x : List (Str × Value)} (hv : C.VRd g h v x) : C.VRd g h' v x := hv.mono (List.prefix_refl _) (fun _ q => q) fun a o ha e => hk a o e (.inr ha)

theorem OR_kept (hk : Kept g h h') {o : AObj} {a : Addr} (ha : a ∈ g.μ) (ho : C.OR g h o a) : C.OR g h' o a := by
  cases o with
  | list b l => obtain ⟨hb, vs, ⟨n, e⟩, hv⟩ := ho; exact ⟨hb, vs, ⟨n, hk _ _ e (.inl ha)⟩, VRs_kept (C := C) hk hv⟩
  | dict b l => obtain ⟨hb, kvs, ⟨ob, es, ep, e, r⟩, hv⟩ := ho; exact ⟨hb, kvs, ⟨ob, es, ep, hk _ _ e (.inl ha), r⟩, VRd_kept (C := C) hk hv⟩

theorem Fix.Rel.kept (R : C.Rel σ g h) (hk : Kept g h h') : C.Rel σ g h' where
  rel :=
    { len := R.rel.len, nodup := R.rel.nodup, disj := R.rel.disj, lkμ := R.rel.lkμ
      live := fun a ha => by
        obtain ⟨o, ho⟩ := Option.isSome_iff_exists.mp (R.rel.live a ha)
        rw [hk a o ho (.inr ha)]; rfl
      base := fun b o e => hk b o (R.rel.base b o e) (.inr (R.bas b (isSome_of e)))
      baseμ := R.rel.baseμ
      objs := fun i o a h1 h2 => OR_kept (C := C) hk (List.mem_of_getElem? h2) (R.rel.objs i o a h1 h2) }
  bas := R.bas
  sys := R.sys

/-- one more frozen thing -/
noncomputable def Cfg.frz (g : Cfg) (a : Addr) : Cfg := ⟨g.μ, fun b => g.Φ b ∨ b = a, g.lk⟩
/-- one more tracked thing -/
noncomputable def Cfg.trk (g : Cfg) (a : Addr) : Cfg := ⟨g.μ ++ [a], g.Φ, g.lk⟩

theorem frz_sub {a : Addr} : ∀ b, g.Φ b → (g.frz a).Φ b := fun _ q => Or.inl q
theorem frz_pre {a : Addr} : g.μ <+: (g.frz a).μ := List.prefix_refl _
theorem trk_pre {a : Addr} : g.μ <+: (g.trk a).μ := List.prefix_append ..
theorem trk_sub {a : Addr} : ∀ b, g.Φ b → (g.trk a).Φ b := fun _ q => q
theorem VR_frz {a : Addr} {v : PV} {x : Value} (hv : C.VR g h v x) : C.VR (g.frz a) h v x := hv.mono frz_pre frz_sub fun _ _ _ e => e
theorem VRs_frz {a : Addr} {v : List PV} {x : List Value} (hv : C.VRs g h v x) : C.VRs (g.frz a) h v x := hv.mono frz_pre frz_sub fun _ _ _ e => e
theorem VRd_frz {a : Addr} {v : List (Str × PV)} {x : List (Str × Value)} (hv : C.VRd g h v x) : C.VRd (g.frz a) h v x := hv.mono frz_pre frz_sub fun _ _ _ e => e
theorem VR_trk {a : Addr} {v : PV} {x : Value} (hv : C.VR g h v x) : C.VR (g.trk a) h v x := hv.mono trk_pre trk_sub fun _ _ _ e => e
theorem VRs_trk {a : Addr} {v : List PV} {x : List Value} (hv : C.VRs g h v x) : C.VRs (g.trk a) h v x := hv.mono trk_pre trk_sub fun _ _ _ e => e
theorem VRd_trk {a : Addr} {v : List (Str × PV)} {x : List (Str × Value)} (hv : C.VRd g h v x) : C.VRd (g.trk a) h v x := hv.mono trk_pre trk_sub fun _ _ _ e => e

theorem OR_mono (hp : g.μ <+: g'.μ) (hs : ∀ a, g.Φ a → g'.Φ a) (hlk : g'.lk = g.lk) {o : AObj} {a : Addr} (ho : C.OR g h o a) : C.OR g' h o a := by
  cases o with
  | list b l => obtain ⟨hb, vs, e, hv⟩ := ho; exact ⟨hlk ▸ hb, vs, e, hv.mono hp hs fun _ _ _ e => e⟩
  | dict b l => obtain ⟨hb, kvs, e, hv⟩ := ho; exact ⟨hlk ▸ hb, kvs, e, hv.mono hp hs fun _ _ _ e => e⟩

theorem Fix.Rel.frz (R : C.Rel σ g h) {a : Addr} (hn : a ∉ g.μ) (hl : (h.get? a).isSome = true) : C.Rel σ (g.frz a) h where
  rel :=
    { len := R.rel.len, nodup := R.rel.nodup, lkμ := R.rel.lkμ
      disj := fun b hb q => q.elim (R.rel.disj b hb) fun e => hn (e ▸ hb)
      live := fun b hb => hb.elim (R.rel.live b) fun e => e ▸ hl
      base := R.rel.base
      baseμ := R.rel.baseμ
      objs := fun i o b h1 h2 => OR_mono (C := C) frz_pre frz_sub rfl (R.rel.objs i o b h1 h2) }
  bas := fun b hb => .inl (R.bas b hb)
  sys := R.sys

theorem Fix.Rel.trk (R : C.Rel σ g h) {a : Addr} {o : AObj} (hn : a ∉ g.μ) (hf : ¬ g.Φ a) (ho : C.OR g h o a) : C.Rel (σ ++ [o]) (g.trk a) h where
  rel :=
    { len := by simp [Cfg.trk, R.rel.len]
      lkμ := fun b hb => List.mem_append_left _ (R.rel.lkμ b hb)
      nodup := by
        show (g.μ ++ [a]).Nodup
        rw [List.nodup_append]
        exact ⟨R.rel.nodup, by simp, fun b hb c hc => by rw [List.mem_singleton.mp hc]; rintro rfl; exact hn hb⟩
      disj := fun b hb => (List.mem_append.mp hb).elim (R.rel.disj b) fun q => (List.mem_singleton.mp q) ▸ hf
      live := R.rel.live
      base := R.rel.base
      baseμ := fun b hb => (List.mem_append.mp hb).elim (R.rel.baseμ b) fun q => (List.mem_singleton.mp q) ▸ R.base_none hf
      objs := fun i o' b h1 h2 => by
        have hlen := R.rel.len
        by_cases hi : i < σ.length
        · have h1' : σ[i]? = some o' := by rwa [List.getElem?_append_left hi] at h1
          have h2' : g.μ[i]? = some b := by
            have : (g.μ ++ [a])[i]? = some b := h2
            rwa [List.getElem?_append_left (by exact ar7 hlen hi)] at this
          exact OR_mono (C := C) trk_pre trk_sub rfl (R.rel.objs i o' b h1' h2')
        · have hlt := (List.getElem?_eq_some_iff.mp h1).1
          have hi' : i = σ.length := by simp at hlt; exact ar6 hi hlt
          subst hi'
          have e1 : o' = o := by simpa using h1.symm
          have e2 : b = a := by
            have : (g.μ ++ [a])[σ.length]? = some b := h2
            rw [← hlen] at this; simpa using this.symm
          rw [e1, e2]
          exact OR_mono (C := C) trk_pre trk_sub rfl ho }
  bas := R.bas
  sys := R.sys

/-- a tracked thing changed -/
theorem Fix.Rel.set (R : C.Rel σ g h) {i : Nat} {a : Addr} {o : AObj} (hi : g.μ[i]? = some a) (hk : ∀ b ob, b ≠ a → h.get? b = some ob → h'.get? b = some ob) (ho : C.OR g h' o a) : C.Rel (σ.set i o) g h' := by
  have ham : a ∈ g.μ := List.mem_of_getElem? hi
  have hfa : ¬ g.Φ a := R.rel.disj a ham
  have kΦ : ∀ b ob, g.Φ b → h.get? b = some ob → h'.get? b = some ob := fun b ob hb e => hk b ob (fun q => hfa (q ▸ hb)) e
  refine ⟨{ len := by rw [List.length_set]; exact R.rel.len, nodup := R.rel.nodup, disj := R.rel.disj, lkμ := R.rel.lkμ, live := fun b hb => ?_, base := fun b ob e => kΦ b ob (R.bas b (isSome_of e)) (R.rel.base b ob e), baseμ := R.rel.baseμ, objs := fun j o' b h1 h2 => ?_ }, R.bas, R.sys⟩
  · obtain ⟨ob, e⟩ := Option.isSome_iff_exists.mp (R.rel.live b hb)
    rw [kΦ b ob hb e]; rfl
  · by_cases hj : j = i
    · subst hj
      rw [hi] at h2; cases h2
      have hlt : j < σ.length := R.rel.len ▸ (List.getElem?_eq_some_iff.mp hi).1
      rw [List.getElem?_set_self hlt] at h1
      cases h1; exact ho
    · rw [List.getElem?_set_ne (Ne.symm hj)] at h1
      have hba : b ≠ a := fun q => hj (by
        subst q
        have l1 := (List.getElem?_eq_some_iff.mp h2).1
        have l2 := (List.getElem?_eq_some_iff.mp hi).1
        exact (List.getElem?_inj l1 R.rel.nodup).mp (h2.trans hi.symm))
      have old := R.rel.objs j o' b h1 h2
      cases o' with
      | list b l => obtain ⟨hb, vs, ⟨n, e⟩, hv⟩ := old; exact ⟨hb, vs, ⟨n, hk _ _ hba e⟩, hv.mono (List.prefix_refl _) (fun _ q => q) fun c oc hc e => kΦ c oc hc e⟩
      | dict b l => obtain ⟨hb, kvs, ⟨ob, es, ep, e, r⟩, hv⟩ := old; exact ⟨hb, kvs, ⟨ob, es, ep, hk _ _ hba e, r⟩, hv.mono (List.prefix_refl _) (fun _ q => q) fun c oc hc e => kΦ c oc hc e⟩

/-- VR over a step -/
theorem VR_ext (R : C.Rel σ g s.heap) (e : Ext own g s g' s') (hoff : Off own g) {v : PV} {x : Value} (hv : C.VR g s.heap v x) : C.VR g' s'.heap v x :=
  hv.mono e.pre e.sub fun a o ha ho => e.keep a o ho (.inl fun q => R.rel.disj a q ha) fun q => (hoff a q).2 ha
theorem VRs_ext (R : C.Rel σ g s.heap) (e : Ext own g s g' s') (hoff : Off own g) {v : List PV} {x : List Value} (hv : C.VRs g s.heap v x) : C.VRs g' s'.heap v x :=
  hv.mono e.pre e.sub fun a o ha ho => e.keep a o ho (.inl fun q => R.rel.disj a q ha) fun q => (hoff a q).2 ha

theorem Off.ext (hoff : Off own g) (e : Ext own g s g' s') (hl : ∀ b, own b → (s.heap.get? b).isSome = true) : Off own g' := fun b hb => by
  obtain ⟨o, ho⟩ := Option.isSome_iff_exists.mp (hl b hb)
  exact ⟨e.notμ ho (hoff b hb).1, e.notΦ ho (hoff b hb).2⟩

/-- what a value's shape says -/
noncomputable def VRi (C : Fix) (g : Cfg) (h : Heap) : PV → Value → Prop
  | .none, x => x = .none
  | .bool b, x => x = .bool b
  | .int i, x => ∃ t, x = .int i t
  | .str y, x => ∃ t, x = .str y t
  | .tup l, x => ∃ a vs, x = .ref a ∧ IsTupX h a vs ∧ C.VRs g h l vs.toList
  | .lst l, x => ∃ a vs, x = .ref a ∧ IsListX h a vs ∧ C.VRs g h l vs.toList
  | .dct l, x => ∃ a kvs, x = .ref a ∧ a ≠ sysModules ∧ h.DictOf (strKind C.prog C.w) a kvs ∧ C.VRd g h l kvs
  | .rng lo hi, x => ∃ a, x = .ref a ∧ IsRng h a lo hi
  | .ref i, x => ∃ a, x = .ref a ∧ g.μ[i]? = some a
  | .undef, _ => True
theorem VR_inv {v : PV} {x : Value} (hv : C.VR g h v x) : VRi C g h v x := by
  cases hv with
  | none => exact rfl
  | bool => exact rfl
  | int i t => exact ⟨t, rfl⟩
  | str y t => exact ⟨t, rfl⟩
  | tup _ b c => exact ⟨_, _, rfl, b, c⟩
  | lst _ b c => exact ⟨_, _, rfl, b, c⟩
  | dct _ b c d => exact ⟨_, _, rfl, b, c, d⟩
  | rng _ b => exact ⟨_, rfl, b⟩
  | ref b => exact ⟨_, rfl, b⟩
theorem deref_sound (R : C.Rel σ g h) {v : PV} {x : Value} (hv : C.VR g h v x) : VRi C g h (deref σ v) x := by
  cases v with
  | ref i =>
    obtain ⟨a, rfl, hi⟩ := VR_inv hv
    show VRi C g h (derefO σ[i]?) _
    cases ho : σ[i]? with
    | none => trivial
    | some o =>
      have hor := R.rel.objs i o a ho hi
      cases o with
      | list b l => obtain ⟨_, vs, h1, h2⟩ := hor; exact ⟨a, vs, rfl, h1, h2⟩
      | dict b l => obtain ⟨_, kvs, h1, h2⟩ := hor; exact ⟨a, kvs, rfl, R.notSys (R.rel.disj a (List.mem_of_getElem? hi)), h1, h2⟩
  | _ => exact VR_inv hv
theorem intOf_eq {w : PV} {i : Int} (h : intOf w = some i) : w = .int i := by cases w <;> first | exact congrArg PV.int (Option.some.inj h) | exact nomatch h
theorem strOf_eq {w : PV} {i : Str} (h : strOf w = some i) : w = .str i := by cases w <;> first | exact congrArg PV.str (Option.some.inj h) | exact nomatch h
theorem lstOf_eq {w : PV} {i : List PV} (h : lstOf w = some i) : w = .lst i := by cases w <;> first | exact congrArg PV.lst (Option.some.inj h) | exact nomatch h
theorem dctOf_eq {w : PV} {i : List (Str × PV)} (h : dctOf w = some i) : w = .dct i := by cases w <;> first | exact congrArg PV.dct (Option.some.inj h) | exact nomatch h
theorem refOf_eq {w : PV} {i : Nat} (h : refOf w = some i) : w = .ref i := by cases w <;> first | exact congrArg PV.ref (Option.some.inj h) | exact nomatch h
theorem seqOf_eq {w : PV} {i : List PV} (h : seqOf w = some i) : w = .tup i ∨ w = .lst i := by cases w <;> first | exact .inl (congrArg PV.tup (Option.some.inj h)) | exact .inr (congrArg PV.lst (Option.some.inj h)) | exact nomatch h
theorem int_vr {v : PV} {x : Value} {i : Int} (e : intOf v = some i) (hv : C.VR g h v x) : ∃ t, x = .int i t := by rw [intOf_eq e] at hv; exact VR_inv hv
theorem str_vr {v : PV} {x : Value} {i : Str} (e : strOf v = some i) (hv : C.VR g h v x) : ∃ t, x = .str i t := by rw [strOf_eq e] at hv; exact VR_inv hv
theorem two_elim {α β γ : Type} {f : PV → Option α} {g : PV → Option β} {a b : PV} {h : α → β → Option γ} {k : Option γ} (P : Option γ → Prop) (hp : P (both f g a b h k)) : (∃ x y, f a = some x ∧ g b = some y ∧ P (h x y)) ∨ P k := by
  unfold both at hp
  cases h1 : f a with
  | none => rw [h1] at hp; exact .inr hp
  | some x =>
    cases h2 : g b with
    | none => rw [h1, h2] at hp; exact .inr hp
    | some y => rw [h1, h2] at hp; exact .inl ⟨x, y, rfl, rfl, hp⟩
theorem bind_elim {α γ : Type} {o : Option α} {f : α → Option γ} (P : Option γ → Prop) (hn : ¬ P none) (hp : P (o.bind f)) : ∃ x, o = some x ∧ P (f x) := by
  cases o with
  | none => exact absurd hp hn
  | some x => exact ⟨x, rfl, hp⟩

/-- steps -/
theorem Ext.heap {tk : Nat} (hk : ∀ b o, s.heap.get? b = some o → (b ∉ g.μ ∨ g.lk b) → ¬ own b → h'.get? b = some o) (hl : ∀ b, (s.heap.get? b).isSome = true → (h'.get? b).isSome = true) :
    Ext own g s g { s with heap := h', toks := tk } :=
  ⟨List.prefix_refl _, fun _ q => q, fun _ q => .inl q, fun _ q => .inl q, rfl, hk, hl, rfl, rfl⟩
theorem Ext.all {tk : Nat} (hk : ∀ b o, s.heap.get? b = some o → h'.get? b = some o) : Ext own g s g { s with heap := h', toks := tk } :=
  .heap (fun b o e _ _ => hk b o e) fun b hb => by obtain ⟨o, ho⟩ := Option.isSome_iff_exists.mp hb; rw [hk b o ho]; rfl
theorem Ext.frz {a : Addr} (e : Ext own g s g' s') (ha : s.heap.get? a = none) : Ext own g s (g'.frz a) s' :=
  { e with sub := fun b hb => .inl (e.sub b hb), newΦ := fun b hb => hb.elim (e.newΦ b) fun q => .inr (q ▸ ha) }
theorem Ext.trk {a : Addr} (e : Ext own g s g' s') (ha : s.heap.get? a = none) : Ext own g s (g'.trk a) s' :=
  { e with
    pre := e.pre.trans (List.prefix_append ..)
    newμ := fun b hb => (List.mem_append.mp hb).elim (e.newμ b) fun q => .inr ((List.mem_singleton.mp q) ▸ ha) }

end Mine

set_option autoImplicit false
set_option backward.match.sparseCases true
namespace Mine
open PySem PyProof.Rows

/-- where the walk stands: no handled exception, room for frames -/
structure AOK (A : Around) (d : Nat) : Prop where
  hand : A.handled = none
  depth : A.depth + d < 890
  units : A.units + 12 * d + 700 < cLine
  fr : ∃ env l, A.frames = some (env :: l) ∧ env.scope.isGenerator = false ∧ env.scope.isCoroutine = false ∧ env.builtins = builtinsNs ∧ env.globals = mainGlobals

/-- what holds of the base -/
structure Fix.OK (C : Fix) : Prop where
  g : C.B.Ns mainGlobals C.mg
  b : C.B.Ns builtinsNs C.mb
  nolimit : C.B.NoLimit
  nodigits : ∃ mc, C.B.Ns cStatics mc ∧ mc "sys.int_max_str_digits" = none
  builtins : ∀ x : Str, x ≠ "__name__" → C.mb x = bootBuiltins x
  seer : C.B.NoSeer
  tree : C.prog.given.tree = none

variable {C : Fix} {σ : AH} {g g' : Cfg} {h h' : Heap} {s s' : Shared} {own : Addr → Prop} {A : Around} {d : Nat}
  {Q : Value → Shared → Prop} {E : Value → Shared → Prop}

noncomputable def FrsR (C : Fix) (g : Cfg) (h : Heap) : Frs → Addr → Prop
  | .list l, a => ∃ vs, IsListX h a vs ∧ C.VRs g h l vs.toList
  | .dict l, a => ∃ kvs, h.DictOf (strKind C.prog C.w) a kvs ∧ C.VRd g h l kvs

/-- a made value x at s' for o, from s on -/
noncomputable def OutR (C : Fix) (s : Shared) (g' : Cfg) (s' : Shared) : Out → Value → Prop
  | .v v, x => C.VR g' s'.heap v x
  | .f f, x => ∃ a, x = .ref a ∧ s.heap.get? a = none ∧ a ∉ g'.μ ∧ ¬ g'.Φ a ∧ FrsR C g' s'.heap f a

noncomputable def PostO (C : Fix) (σ : AH) (g : Cfg) (s : Shared) (o : Option Out) (Q : Value → Shared → Prop) : Prop := match o with
  | none => False
  | some o => ∀ g' s' x, Ext noOwn g s g' s' → C.Rel σ g' s'.heap → OutR C s g' s' o x → Q x s'

noncomputable def PostE (C : Fix) (own : Addr → Prop) (g : Cfg) (s : Shared) (r : Res PV) (Q E : Value → Shared → Prop) : Prop := match r with
  | .ok v σ' => ∀ g' s' x, Ext own g s g' s' → C.Rel σ' g' s'.heap → C.VR g' s'.heap v x → Q x s'
  | .exc _ _ => False
  | .bad => False

theorem PostE.shift {r : Res PV} (e : Ext own g s g' s') (h : PostE C own g s r Q E) : PostE C own g' s' r Q E := by
  cases r with
  | ok v σ' => exact fun g2 s2 x e2 R hv => h g2 s2 x (e.trans e2) R hv
  | exc => exact h
  | bad => exact h

theorem FrsR.ob {f : Frs} {a : Addr} (hlk : ¬ g.lk a) (h : FrsR C g s.heap f a) : C.OR g s.heap f.obj a := by
  cases f <;> exact ⟨⟨fun q => (by cases q), fun q => (hlk q).elim⟩, h⟩
theorem FrsR.live {f : Frs} {a : Addr} (h : FrsR C g s.heap f a) : (s.heap.get? a).isSome = true := by
  cases f with
  | list l => obtain ⟨vs, ⟨n, e⟩, _⟩ := h; exact isSome_of e
  | dict l => obtain ⟨kvs, ⟨o, es, ep, e, _⟩, _⟩ := h; exact isSome_of e
theorem FrsR.vr {f : Frs} {a : Addr} (hm : a ≠ sysModules) (h : FrsR C g s.heap f a) : C.VR (g.frz a) s.heap f.val (.ref a) := by
  cases f with
  | list l => obtain ⟨vs, e, hv⟩ := h; exact .lst (.inr rfl) e (VRs_frz (C := C) hv)
  | dict l => obtain ⟨kvs, e, hv⟩ := h; exact .dct (.inr rfl) hm e (VRd_frz (C := C) hv)

theorem box_sound {m : Nat} {f : Frs} (hp : PostE C noOwn g s (box m f σ) Q E) {a : Addr} (e : Ext noOwn g s g' s') (R : C.Rel σ g' s'.heap) (ha : s.heap.get? a = none) (hn : a ∉ g'.μ) (hf : ¬ g'.Φ a) (hr : FrsR C g' s'.heap f a) : Q (.ref a) s' := by
  cases m with
  | zero => exact hp _ s' _ (e.frz ha) (R.frz hn hr.live) (hr.vr (R.notSys hf))
  | succ m =>
    refine hp _ s' _ (e.trk ha) (R.trk hn hf (hr.ob fun q => hn (R.rel.lkμ _ q))) (.ref ?_)
    show (g'.μ ++ [a])[σ.length]? = some a
    rw [← R.rel.len]; simp

theorem fin_sound {m : Nat} {o : Option Out} (hp : PostE C noOwn g s (fin m o σ) Q E) : PostO C σ g s o Q := by
  cases o with
  | none => exact hp
  | some o => cases o with
    | v v => exact hp
    | f f =>
      rintro g' s' x e R ⟨a, rfl, ha, hn, hf, hr⟩
      exact box_sound hp e R ha hn hf hr

/-- a value that is no heap object: any tokens -/
theorem PostO.val {v : PV} (hp : PostO C σ g s (some (.v v)) Q) (R : C.Rel σ g s.heap) {x : Value} {tk : Nat} (hv : C.VR g s.heap v x) : Q x { s with toks := tk } :=
  hp g _ x (Ext.toks (Ext.refl g s)) R hv
/-- a new object, frozen -/
theorem PostO.push {v : PV} (hp : PostO C σ g s (some (.v v)) Q) (R : C.Rel σ g s.heap) {o : Obj} {tk : Nat}
    (hv : C.VR (g.frz s.heap.objs.size) (s.heap.push o) v (.ref s.heap.objs.size)) (ho : o.isFreed = false := by rfl) : Q (.ref s.heap.objs.size) { s with heap := s.heap.push o, toks := tk } := by
  have hk : ∀ b ob, s.heap.get? b = some ob → (s.heap.push o).get? b = some ob := fun b ob e => Heap.get?_push_of_some o e
  refine hp (g.frz s.heap.objs.size) _ _ ((Ext.all hk).frz (get?_size _)) ((R.kept (.of_all hk)).frz R.new.1 ?_) hv
  show ((s.heap.push o).get? s.heap.objs.size).isSome = true
  rw [Heap.get?_push_size _ ho]; rfl
/-- a new object, fresh -/
theorem PostO.made {f : Frs} (hp : PostO C σ g s (some (.f f)) Q) (R : C.Rel σ g s.heap) {o : Obj} {tk : Nat} (hr : FrsR C g (s.heap.push o) f s.heap.objs.size) : Q (.ref s.heap.objs.size) { s with heap := s.heap.push o, toks := tk } := by
  have hk : ∀ b ob, s.heap.get? b = some ob → (s.heap.push o).get? b = some ob := fun b ob e => Heap.get?_push_of_some o e
  exact hp g _ _ (Ext.all hk) (R.kept (.of_all hk)) ⟨_, rfl, get?_size _, R.new.1, R.new.2, hr⟩

/-- reading a list, tracked or frozen -/
theorem asList_sound (R : C.Rel σ g h) {v : PV} {l : List PV} {x : Value} (hl : asList σ v = some l) (hv : C.VR g h v x) : ∃ a vs, x = .ref a ∧ h.IsList a vs ∧ C.VRs g h l vs.toList := by
  have hd := deref_sound R hv
  rw [lstOf_eq hl] at hd
  obtain ⟨a, vs, e, h1, h2⟩ := hd
  exact ⟨a, vs, e, isList_of h1, h2⟩

theorem mulStr_sound {x : Str} {n : Int} {t u : Tok} (h1 : n ≤ 1000) (h2 : -1000 ≤ n) (h3 : x.length ≤ 1000) (hq : ∀ t' tk, Q (.str (repStr x n) t') { s with toks := tk }) :
    wpAny (model C.prog C.w) A (binaryOp .Mult (.str x t) (.int n u)) Q E s := by
  refine P.mul_str ?_ (fun h4 _ => ?_) (fun h4 _ => ?_) ?_
  · rw [decide_eq_false (by lia), decide_eq_false (by lia)]; rfl
  · intro h5
    have : (2 ^ 63 - 1 : Int) / n ≥ (2 ^ 63 - 1) / 1000 := by
      apply Int.le_ediv_of_mul_le (by lia)
      have : (2 ^ 63 - 1 : Int) / 1000 * n ≤ (2 ^ 63 - 1) / 1000 * 1000 := Int.mul_le_mul_of_nonneg_left h1 (by decide)
      lia
    lia
  · have hm : x.length * n.toNat ≤ 1000 * 1000 := Nat.mul_le_mul h3 (by lia)
    simp only [Builtin.Str.tooLong, decide_eq_false_iff_not, sizeLine_eq]
    lia
  · by_cases h4 : n < 1
    · rw [if_pos h4]
      have e : repStr x n = Str.empty := by
        have : n.toNat = 0 := by lia
        simp [repStr, this, Str.empty]
      exact ⟨by decide, by rw [← e]; exact hq _ _⟩
    · rw [if_neg h4]
      by_cases h5 : (n == 1 || x.length == 0) = true
      · rw [if_pos h5]
        have e : repStr x n = x := by
          rcases Bool.or_eq_true_iff.mp h5 with h6 | h6
          · have : n = 1 := by simpa using h6
            subst this; simp [repStr]
          · have h7 : x.cps = #[] := Array.eq_empty_of_size_eq_zero (by simpa [Str.length] using h6)
            have h8 : ∀ k : Nat, (List.replicate k x.cps).foldl (· ++ ·) #[] = (#[] : Array Nat) := by
              intro k
              induction k with
              | zero => rfl
              | succ k ih => rw [List.replicate_succ, List.foldl_cons, h7] at *; simpa using ih
            cases x; simp only at h7; subst h7; simp only [repStr, h8]
        have := hq t s.toks
        rw [e] at this
        exact this
      · rw [if_neg h5]
        refine ⟨?_, hq _ _⟩
        have h6 : ∀ k : Nat, ((List.replicate k x.cps).foldl (· ++ ·) #[]).size = k * x.cps.size := by
          intro k
          have h7 : ∀ (k : Nat) (a : Array Nat), ((List.replicate k x.cps).foldl (· ++ ·) a).size = a.size + k * x.cps.size := by
            intro k
            induction k with
            | zero => intro a; simp
            | succ k ih => intro a; rw [List.replicate_succ, List.foldl_cons, ih, Array.size_append, Nat.succ_mul]; lia
          simpa using h7 k #[]
        show ((List.replicate n.toNat x.cps).foldl (· ++ ·) #[]).size ≤ sizeLine
        rw [h6, sizeLine_eq]
        have hm : n.toNat * x.cps.size ≤ 1000 * 1000 := Nat.mul_le_mul (by lia) h3
        lia

theorem pylong_room (K : C.OK) (R : C.Rel σ g s.heap) (hA : AOK A d) : PylongRoom (model C.prog C.w) A s := by
  obtain ⟨env, l, h1, h2, h3, h4, h5⟩ := hA.fr
  refine PylongRoom.of (K.nolimit.keeps R.rel.base) ?_ (SeerAt.of (K.seer.keeps R.rel.base) K.tree h1 h2 h3 h4 h5)
  have := hA.depth
  show A.depth + 100 < 1000
  lia

theorem VRs.size {C : Fix} {g : Cfg} {h : Heap} {l : List PV} {vs : Array Value} (hv : C.VRs g h l vs.toList) : vs.size = l.length := by
  rw [VRs.length hv]; simp

theorem listObj_frs {l : List PV} {vs : Array Value} {n : Nat} (R : C.Rel σ g s.heap) (hv : C.VRs g s.heap l vs.toList) :
    FrsR C g (s.heap.push { cls := .type "list", data := .seq vs n }) (.list l) s.heap.objs.size :=
  ⟨vs, ⟨n, Heap.get?_push_size _ rfl⟩, VRs_kept (C := C) (.of_all fun b o e => Heap.get?_push_of_some _ e) hv⟩
theorem tupObj_vr {l : List PV} {vs : Array Value} {n : Nat} (hv : C.VRs g s.heap l vs.toList) :
    C.VR (g.frz s.heap.objs.size) (s.heap.push { cls := .type "tuple", data := .seq vs n }) (.tup l) (.ref s.heap.objs.size) :=
  .tup (.inr rfl) ⟨n, Heap.get?_push_size _ rfl⟩ (VRs_frz (C := C) (VRs_kept (C := C) (.of_all fun b o e => Heap.get?_push_of_some _ e) hv))

theorem PostO.both {α β : Type} {f : PV → Option α} {f' : PV → Option β} {a b : PV} {k : α → β → Option Out} {o : Option Out} (hp : PostO C σ g s (both f f' a b k o) Q) : (∃ x y, f a = some x ∧ f' b = some y ∧ PostO C σ g s (k x y) Q) ∨ PostO C σ g s o Q := two_elim (fun o => PostO C σ g s o Q) hp
theorem PostO.bind {α : Type} {o : Option α} {f : α → Option Out} (hp : PostO C σ g s (o.bind f) Q) : ∃ x, o = some x ∧ PostO C σ g s (f x) Q := bind_elim (fun o => PostO C σ g s o Q) id hp
theorem PostO.ite {p : Prop} {_ : Decidable p} {o : Out} (hp : PostO C σ g s (if p then some o else none) Q) : p ∧ PostO C σ g s (some o) Q := by
  split at hp
  · exact ⟨‹_›, hp⟩
  · exact hp.elim
theorem PostO.ite' {p : Prop} {_ : Decidable p} {o : Out} (hp : PostO C σ g s (if p then none else some o) Q) : ¬ p ∧ PostO C σ g s (some o) Q := by
  split at hp
  · exact hp.elim
  · exact ⟨‹_›, hp⟩
theorem ints_vr {a b : PV} {x y : Value} {i j : Int} (hx : C.VR g h a x) (hy : C.VR g h b y) (e1 : intOf a = some i) (e2 : intOf b = some j) : ∃ t u, x = .int i t ∧ y = .int j u :=
  let ⟨t, q1⟩ := int_vr e1 hx; let ⟨u, q2⟩ := int_vr e2 hy; ⟨t, u, q1, q2⟩
theorem strs_vr {a b : PV} {x y : Value} {i j : Str} (hx : C.VR g h a x) (hy : C.VR g h b y) (e1 : strOf a = some i) (e2 : strOf b = some j) : ∃ t u, x = .str i t ∧ y = .str j u :=
  let ⟨t, q1⟩ := str_vr e1 hx; let ⟨u, q2⟩ := str_vr e2 hy; ⟨t, u, q1, q2⟩
theorem binop_sound (K : C.OK) (hA : AOK A d) (R : C.Rel σ g s.heap) {op : Operator} {a b : PV} {x y : Value} (hx : C.VR g s.heap a x) (hy : C.VR g s.heap b y) (hp : PostO C σ g s (binop σ op a b) Q) :
    wpAny (model C.prog C.w) A (binaryOp op x y) Q E s := by
  cases op with
  | Add =>
    rcases hp.both with ⟨i, j, e1, e2, hp⟩ | hp
    · obtain ⟨t, u, rfl, rfl⟩ := ints_vr hx hy e1 e2
      exact wpAny_add_int (hp.val R (.int ..))
    · rcases hp.both with ⟨i, j, e1, e2, hp⟩ | hp
      · obtain ⟨t, u, rfl, rfl⟩ := strs_vr hx hy e1 e2
        have hp := hp.ite
        exact add_str (fun t' tk => hp.2.val R (.str ..)) (Nat.le_trans hp.1 (by decide))
      · exact hp.elim
  | Sub =>
    rcases hp.both with ⟨i, j, e1, e2, hp⟩ | hp
    · obtain ⟨t, u, rfl, rfl⟩ := ints_vr hx hy e1 e2
      exact sub_int (hp.val R (.int ..))
    · exact hp.elim
  | Mult =>
    rcases hp.both with ⟨i, j, e1, e2, hp⟩ | hp
    · obtain ⟨t, u, rfl, rfl⟩ := ints_vr hx hy e1 e2
      have hp := hp.ite
      exact PyProof.Rows.mul_int (hp.2.val R (.int ..)) hp.1
    · rcases hp.both with ⟨i, j, e1, e2, hp⟩ | hp
      · obtain ⟨t, rfl⟩ := str_vr e1 hx
        obtain ⟨u, rfl⟩ := int_vr e2 hy
        have hp := hp.ite
        exact mulStr_sound hp.1.1 hp.1.2.1 hp.1.2.2 fun t' tk => hp.2.val R (.str ..)
      · exact hp.elim
  | FloorDiv =>
    rcases hp.both with ⟨i, j, e1, e2, hp⟩ | hp
    · obtain ⟨t, u, rfl, rfl⟩ := ints_vr hx hy e1 e2
      have hp := hp.ite'
      exact PyProof.Rows.floordiv_int hp.1 (hp.2.val R (.int ..)) (.inr (pylong_room K R hA))
    · exact hp.elim
  | Mod =>
    rcases hp.both with ⟨i, j, e1, e2, hp⟩ | hp
    · obtain ⟨t, u, rfl, rfl⟩ := ints_vr hx hy e1 e2
      have hp := hp.ite'
      exact mod_int' hp.1 (hp.2.val R (.int ..))
    · exact hp.elim
  | Pow =>
    rcases hp.both with ⟨i, j, e1, e2, hp⟩ | hp
    · obtain ⟨t, u, rfl, rfl⟩ := ints_vr hx hy e1 e2
      have hp := hp.ite
      exact pow_int_small hp.1.1 hp.1.2.1 hp.1.2.2 (hp.2.val R (.int ..))
    · exact hp.elim
  | _ => exact hp.elim

end Mine

set_option autoImplicit false
set_option backward.match.sparseCases true
namespace Mine
open PySem PyProof.Rows PySem.SeqAt

variable {C : Fix} {σ : AH} {g g' : Cfg} {h h' : Heap} {s s' : Shared} {own : Addr → Prop} {A : Around} {d : Nat}
  {Q : Value → Shared → Prop} {E : Value → Shared → Prop}

noncomputable abbrev pairPV (l r : List PV) (j : Nat) : Bool := pvEq (l.getD j .none) (r.getD j .none)

theorem pvEqs_all : ∀ l r : List PV, ((List.range (min l.length r.length)).all (pairPV l r) && l.length == r.length) = pvEqs l r
  | [], [] => rfl
  | [], _ :: _ => rfl
  | _ :: _, [] => rfl
  | x :: xs, y :: ys => by
    have ih := pvEqs_all xs ys
    have e1 : min (x :: xs).length (y :: ys).length = min xs.length ys.length + 1 := Nat.succ_min_succ ..
    have e3 : (List.range (min xs.length ys.length + 1)).all (pairPV (x :: xs) (y :: ys)) = (pvEq x y && (List.range (min xs.length ys.length)).all (pairPV xs ys)) := by
      rw [List.range_succ_eq_map, List.all_cons, List.all_map]
      first | rfl | simp [pairPV, Function.comp_def]
    rw [e1, e3, show pvEqs (x :: xs) (y :: ys) = (pvEq x y && pvEqs xs ys) from rfl, ← ih, Bool.and_assoc]
    simp

theorem isTuple_inj {h : Heap} {a : Addr} {vs ws : Array Value} (x : h.IsTuple a vs) (y : h.IsTuple a ws) : vs = ws := by
  obtain ⟨o, ho, _, n, hd⟩ := x
  obtain ⟨o', ho', _, n', hd'⟩ := y
  rw [ho] at ho'; cases ho'; rw [hd] at hd'; cases hd'; rfl

theorem VRs.at {l : List PV} {xs : List Value} (hv : C.VRs g h l xs) {j : Nat} {x : Value} (hx : xs[j]? = some x) : ∃ v, l[j]? = some v ∧ C.VR g h v x := by
  have hlt : j < l.length := by rw [VRs.length hv]; exact (List.getElem?_eq_some_iff.mp hx).1
  have e : l[j]? = some l[j] := List.getElem?_eq_getElem hlt
  obtain ⟨y, h1, h2⟩ := hv.get e
  rw [hx] at h1
  cases h1
  exact ⟨_, e, h2⟩
theorem pure_int {v : PV} (h : pureV v = true) : (∃ i, v = .int i) ∨ (∃ x, v = .str x) ∨ ∃ l, v = .tup l ∧ pureVs l = true := by
  cases v with
  | int i => exact .inl ⟨i, rfl⟩
  | str x => exact .inr (.inl ⟨x, rfl⟩)
  | tup l => exact .inr (.inr ⟨l, rfl, h⟩)
  | _ => cases h
theorem deeps_mem {l : List PV} {v : PV} (h : v ∈ l) : deep v ≤ deeps l := by
  induction l with
  | nil => cases h
  | cons a l ih =>
    show _ ≤ max (deep a) (deeps l)
    rcases List.mem_cons.mp h with rfl | h
    · exact Nat.le_max_left ..
    · exact Nat.le_trans (ih h) (Nat.le_max_right ..)

theorem rc_of {a b : PV} {x y : Value} (hx : C.VR g s.heap a x) (hy : C.VR g s.heap b y) (pa : pureV a = true) (pb : pureV b = true) (hu : A.units < cLine)
    (he : ∀ {l r : List PV} {vs ws : Array Value}, a = .tup l → b = .tup r → C.VRs g s.heap l vs.toList → C.VRs g s.heap r ws.toList → ∀ j (h1 : j < vs.size) (h2 : j < ws.size), EqAt A.in1 s vs[j] ws[j] (pairPV l r j)) :
    RcAt A s x y (pvEq a b) ∧ RcNeAt A s x y (!pvEq a b) := by
  rcases pure_int pa with ⟨v, rfl⟩ | ⟨v, rfl⟩ | ⟨l, rfl, _⟩
  · obtain ⟨_, rfl⟩ := VR_inv hx
    rcases pure_int pb with ⟨u, rfl⟩ | ⟨u, rfl⟩ | ⟨r, rfl, _⟩
    · obtain ⟨_, rfl⟩ := VR_inv hy; exact ⟨RcAt.int_int _ _ _ _, RcNeAt.int_int _ _ _ _⟩
    · obtain ⟨_, rfl⟩ := VR_inv hy; exact ⟨RcAt.int_str _ _ _ _, RcNeAt.int_str _ _ _ _⟩
    · obtain ⟨_, _, rfl, k2, _⟩ := VR_inv hy; exact ⟨RcAt.int_tuple _ _ (isTuple_of k2) hu, RcNeAt.int_tuple _ _ (isTuple_of k2) hu⟩
  · obtain ⟨_, rfl⟩ := VR_inv hx
    rcases pure_int pb with ⟨u, rfl⟩ | ⟨u, rfl⟩ | ⟨r, rfl, _⟩
    · obtain ⟨_, rfl⟩ := VR_inv hy; exact ⟨RcAt.str_int _ _ _ _, RcNeAt.str_int _ _ _ _⟩
    · obtain ⟨_, rfl⟩ := VR_inv hy; exact ⟨RcAt.str_str _ _ _ _, RcNeAt.str_str _ _ _ _⟩
    · obtain ⟨_, _, rfl, k2, _⟩ := VR_inv hy; exact ⟨RcAt.str_tuple _ _ (isTuple_of k2) hu, RcNeAt.str_tuple _ _ (isTuple_of k2) hu⟩
  · obtain ⟨_, vs, rfl, k2, hr⟩ := VR_inv hx
    rcases pure_int pb with ⟨u, rfl⟩ | ⟨u, rfl⟩ | ⟨r, rfl, _⟩
    · obtain ⟨_, rfl⟩ := VR_inv hy; exact ⟨RcAt.tuple_int _ _ (isTuple_of k2) hu, RcNeAt.tuple_int _ _ (isTuple_of k2) hu⟩
    · obtain ⟨_, rfl⟩ := VR_inv hy; exact ⟨RcAt.tuple_str _ _ (isTuple_of k2) hu, RcNeAt.tuple_str _ _ (isTuple_of k2) hu⟩
    · obtain ⟨_, ws, rfl, k3, hr'⟩ := VR_inv hy
      rw [show pvEq (.tup l) (.tup r) = pvEqs l r from rfl, ← pvEqs_all, ← hr.size, ← hr'.size]
      exact ⟨RcAt.tuples (isTuple_of k2) (isTuple_of k3) hu (he rfl rfl hr hr'), RcNeAt.tuples (isTuple_of k2) (isTuple_of k3) hu (he rfl rfl hr hr')⟩
theorem vr_nofloat {a : PV} {x : Value} (hx : C.VR g h a x) : ∀ b t, x ≠ .float b t := by cases hx <;> exact fun _ _ q => nomatch q
theorem eqAt_of_rc {x y : Value} {k : Bool} (hne : x ≠ y) (hf : ∀ b t, x ≠ .float b t) (h : RcAt A s x y k) : EqAt A s x y k := fun prog w E Q hq => by
  unfold eqBool
  refine wpAny_holding ?_
  refine wpAny_ite_split (fun hab => absurd (eq_of_beq hab) hne) (fun _ => ?_)
  cases x with
  | float b t => exact absurd rfl (hf b t)
  | _ => exact wpAny_bind (h prog w E _ (wpAny_truthy_bool hq))

theorem int_ne_ref {i : Int} {t : Tok} {a : Addr} (h : Value.int i t = .ref a) : False := nomatch h
theorem str_ne_ref {i : Str} {t : Tok} {a : Addr} (h : Value.str i t = .ref a) : False := nomatch h
theorem int_ne_str {i : Int} {t u : Tok} {a : Str} (h : Value.int i t = .str a u) : False := nomatch h
theorem one3 : (∀ {v : PV} {x : Value}, C.VR g h v x → ∀ b, C.VR g h b x → pureV v = true → pureV b = true → pvEq v b = true) ∧
    (∀ {l : List PV} {xs : List Value}, C.VRs g h l xs → ∀ r, C.VRs g h r xs → pureVs l = true → pureVs r = true → pvEqs l r = true) ∧ (∀ {l : List (Str × PV)} {xs : List (Str × Value)}, C.VRd g h l xs → True) := by
  refine VR.ind (fun b _ p => nomatch p) (fun _ b _ p => nomatch p) (fun i t b hb _ pb => ?_) (fun i t b hb _ pb => ?_) (fun l a vs _ hl _ ih b hb pl pb => ?_) (fun _ _ _ _ _ _ _ b _ p => nomatch p) (fun _ _ _ _ _ _ _ _ b _ p => nomatch p) (fun _ _ _ _ _ b _ p => nomatch p) (fun _ _ _ b _ p => nomatch p)
    (fun r hr _ _ => ?_) (fun v x l r' _ _ i1 i2 r hr pl pr => ?_) trivial (fun _ _ _ _ _ _ _ _ _ => trivial)
  · rcases pure_int pb with ⟨v, rfl⟩ | ⟨v, rfl⟩ | ⟨l, rfl, _⟩
    · obtain ⟨_, e⟩ := VR_inv hb; cases e; exact beq_self_eq_true i
    · obtain ⟨_, e⟩ := VR_inv hb; exact (int_ne_str e).elim
    · obtain ⟨_, _, e, _⟩ := VR_inv hb; exact (int_ne_ref e).elim
  · rcases pure_int pb with ⟨v, rfl⟩ | ⟨v, rfl⟩ | ⟨l, rfl, _⟩
    · obtain ⟨_, e⟩ := VR_inv hb; exact (int_ne_str e.symm).elim
    · obtain ⟨_, e⟩ := VR_inv hb; cases e; exact beq_self_eq_true i
    · obtain ⟨_, _, e, _⟩ := VR_inv hb; exact (str_ne_ref e).elim
  · rcases pure_int pb with ⟨v, rfl⟩ | ⟨v, rfl⟩ | ⟨r, rfl, pr⟩
    · obtain ⟨_, e⟩ := VR_inv hb; exact (int_ne_ref e.symm).elim
    · obtain ⟨_, e⟩ := VR_inv hb; exact (str_ne_ref e.symm).elim
    · obtain ⟨_, ws, e, k2, k3⟩ := VR_inv hb
      cases e
      have := isTuple_inj (isTuple_of hl) (isTuple_of k2)
      subst this
      exact ih r k3 pl pr
  · cases r with
    | nil => rfl
    | cons => exact nomatch VRs.length hr
  · cases r with
    | nil => exact nomatch VRs.length hr
    | cons y r =>
      cases hr with
      | cons k1 k2 =>
        have pl := Bool.and_eq_true_iff.mp pl
        have pr := Bool.and_eq_true_iff.mp pr
        exact Bool.and_eq_true_iff.mpr ⟨i1 y k1 pl.1 pr.1, i2 r k2 pl.2 pr.2⟩
theorem one_n {a b : PV} {x : Value} (ha : C.VR g h a x) (hb : C.VR g h b x) (pa : pureV a = true) (pb : pureV b = true) : pvEq a b = true := one3.1 ha b hb pa pb
theorem eqAt_n : ∀ (n : Nat) {a b : PV} {A : Around} {x y : Value}, deep a ≤ n → C.VR g s.heap a x → C.VR g s.heap b y → pureV a = true → pureV b = true → A.units + deep a < cLine →
    (RcAt A s x y (pvEq a b) ∧ RcNeAt A s x y (!pvEq a b)) ∧ EqAt A s x y (pvEq a b) := by
  intro n
  induction n with
  | zero =>
    intro a b A x y hd hx hy pa pb hu
    have r := rc_of hx hy pa pb (Nat.lt_of_le_of_lt (Nat.le_add_right _ _) hu) fun {l r vs ws} ea eb hl hr j h1 h2 => by subst ea; exact absurd hd (Nat.not_succ_le_zero _)
    refine ⟨r, ?_⟩
    by_cases he : x = y
    · subst he; rw [one_n hx hy pa pb]; exact EqAt.same _
    · exact eqAt_of_rc he (vr_nofloat hx) r.1
  | succ n ih =>
    intro a b A x y hd hx hy pa pb hu
    have r := rc_of hx hy pa pb (Nat.lt_of_le_of_lt (Nat.le_add_right _ _) hu) fun {l r vs ws} ea eb hl hr j h1 h2 => by
      subst ea; subst eb
      have hd' : deeps l ≤ n := Nat.le_of_succ_le_succ hd
      obtain ⟨v, e1, w1⟩ := VRs.at hl (j := j) (x := vs[j]) (by simp [h1])
      obtain ⟨u, e2, w2⟩ := VRs.at hr (j := j) (x := ws[j]) (by simp [h2])
      have m1 := List.mem_of_getElem? e1
      have hdv := deeps_mem m1
      have hu' : A.units + (deeps l + 1) < cLine := hu
      have := (ih (A := A.in1) (Nat.le_trans hdv hd') w1 w2 (pureVs_iff.mp pa v m1) (pureVs_iff.mp pb u (List.mem_of_getElem? e2)) (by show A.units + 1 + deep v < cLine; omega)).2
      unfold pairPV
      rw [List.getD_eq_getElem?_getD, List.getD_eq_getElem?_getD, e1, e2]
      exact this
    refine ⟨r, ?_⟩
    by_cases he : x = y
    · subst he; rw [one_n hx hy pa pb]; exact EqAt.same _
    · exact eqAt_of_rc he (vr_nofloat hx) r.1
theorem rc_vr {a b : PV} {x y : Value} (hx : C.VR g s.heap a x) (hy : C.VR g s.heap b y) (pa : pureV a = true) (pb : pureV b = true) (hu : A.units + deep a < cLine) :
    RcAt A s x y (pvEq a b) ∧ RcNeAt A s x y (!pvEq a b) := (eqAt_n _ (Nat.le_refl _) hx hy pa pb hu).1
end Mine

set_option autoImplicit false
set_option backward.match.sparseCases true
namespace Mine
open PySem PyProof.Rows PySem.SeqAt

variable {C : Fix} {σ : AH} {g g' : Cfg} {h h' : Heap} {s s' : Shared} {own : Addr → Prop} {A : Around} {d : Nat}
  {Q : Value → Shared → Prop} {E : Value → Shared → Prop}

theorem plain_pure {v : PV} (h : plain v = true) : pureV v = true ∧ deep v ≤ 200 := let ⟨h1, h2⟩ := Bool.and_eq_true_iff.mp h; ⟨h1, of_decide_eq_true h2⟩
/-- two dicts -/
theorem hits_vr {m : List (Str × PV)} {kws : List (Str × Value)} (v2 : C.VRd g s.heap m kws) (p2 : plainD m = true) (hu : A.units + 200 < cLine) {l : List (Str × PV)} {kvs : List (Str × Value)} (v1 : C.VRd g s.heap l kvs) : plainD l = true →
    PySem.W.KeqHits A s kws kvs (l.all fun kv => (dget m kv.1).any (pvEq kv.2)) :=
  (VR.ind (P := fun _ _ => True) (Q := fun _ _ => True) (S := fun l kvs => plainD l = true → PySem.W.KeqHits A s kws kvs (l.all fun kv => (dget m kv.1).any (pvEq kv.2)))
    trivial (fun _ => trivial) (fun _ _ => trivial) (fun _ _ => trivial) (fun _ _ _ _ _ _ _ => trivial) (fun _ _ _ _ _ _ _ => trivial) (fun _ _ _ _ _ _ _ _ => trivial) (fun _ _ _ _ _ => trivial) (fun _ _ _ => trivial) trivial (fun _ _ _ _ _ _ _ _ => trivial)
    (fun _ => .nil) (fun k v x l r hx hr _ ih p => by
      have p := Bool.and_eq_true_iff.mp p
      have ih := ih p.2
      have hg := v2.get k
      show PySem.W.KeqHits A s kws ((k, x) :: r) ((dget m k).any (pvEq v) && _)
      cases hm : dget m k with
      | none => rw [hm] at hg; exact .miss hg
      | some v' =>
        rw [hm] at hg
        obtain ⟨x', h2, h3⟩ := hg
        have q1 := plain_pure p.1
        have q2 := plain_pure (List.all_eq_true.mp p2 _ (mem_of_dget hm))
        exact .hit h2 (eqAt_n _ (Nat.le_refl _) hx h3 q1.1 q2.1 (Nat.lt_of_le_of_lt (Nat.add_le_add_left q1.2 _) hu)).2 ih)).2.2 v1
theorem rcDict {a b : Addr} {l m : List (Str × PV)} {kvs kws : List (Str × Value)} (hA : AOK A d) (ha : a ≠ sysModules) (hb : b ≠ sysModules) (h1 : s.heap.DictOf (strKind C.prog C.w) a kvs) (h2 : s.heap.DictOf (strKind C.prog C.w) b kws)
    (v1 : C.VRd g s.heap l kvs) (v2 : C.VRd g s.heap m kws) (p1 : plainD l = true) (p2 : plainD m = true) :
    (∀ Q E, (∀ tk, Q (.bool (dctEq l m)) { s with toks := tk }) → wpAny (model C.prog C.w) A (compareOp .Eq (.ref a) (.ref b)) Q E s) ∧
    (∀ Q E, (∀ tk, Q (.bool (!dctEq l m)) { s with toks := tk }) → wpAny (model C.prog C.w) A (compareOp .NotEq (.ref a) (.ref b)) Q E s) := by
  have hu := hA.units
  have hu0 : A.units < cLine := by lia
  have hu1 : A.in1.units + 200 < cLine := by
    show A.units + 1 + 200 < cLine
    lia
  have hh := hits_vr (A := A.in1) v2 p2 hu1 v1 p1
  have e : dctEq l m = (kvs.length == kws.length && l.all fun kv => (dget m kv.1).any (pvEq kv.2)) := by
    unfold dctEq; rw [v1.length, v2.length]
  refine ⟨fun Q E hq => ?_, fun Q E hq => ?_⟩
  · refine PySem.W.keq_eq (by simpa using ha) (by simpa using hb) h1 h2 hu0 (fun _ => hh) ?_
    rw [← e]; exact hq s.toks
  · refine PySem.W.keq_ne (by simpa using ha) (by simpa using hb) h1 h2 hu0 (fun _ => hh) ?_
    rw [← e]; exact hq s.toks
theorem some2 {α β : Type} {f : PV → Option α} {f' : PV → Option β} {a b : PV} {k : α → β → Option Bool} {o : Option Bool} {r : Bool} (hp : both f f' a b k o = some r) : (∃ x y, f a = some x ∧ f' b = some y ∧ k x y = some r) ∨ o = some r := two_elim (fun o => o = some r) hp
theorem eqP_sound (hA : AOK A d) (R : C.Rel σ g s.heap) {a b : PV} {x y : Value} {r : Bool} (hx : C.VR g s.heap a x) (hy : C.VR g s.heap b y) (he : eqP σ a b = some r) :
    (∀ Q E, (∀ tk, Q (.bool r) { s with toks := tk }) → wpAny (model C.prog C.w) A (compareOp .Eq x y) Q E s) ∧
    (∀ Q E, (∀ tk, Q (.bool (!r)) { s with toks := tk }) → wpAny (model C.prog C.w) A (compareOp .NotEq x y) Q E s) := by
  rcases some2 he with ⟨l, m, h1, h2, he⟩ | he
  · split at he
    · rename_i hpp
      cases he
      have hx := deref_sound R hx
      have hy := deref_sound R hy
      rw [dctOf_eq h1] at hx
      rw [dctOf_eq h2] at hy
      obtain ⟨a', kvs, rfl, a1, a2, a3⟩ := hx
      obtain ⟨b', kws, rfl, b1, b2, b3⟩ := hy
      exact rcDict hA a1 b1 a2 b2 a3 b3 (Bool.and_eq_true_iff.mp hpp).1 (Bool.and_eq_true_iff.mp hpp).2
    · cases he
  · unfold eqV at he
    split at he
    · rename_i hpp
      cases he
      have p1 := plain_pure (Bool.and_eq_true_iff.mp hpp).1
      have p2 := plain_pure (Bool.and_eq_true_iff.mp hpp).2
      have hu := hA.units
      obtain ⟨e1, e2⟩ := rc_vr (A := A) hx hy p1.1 p2.1 (by have := p1.2; lia)
      exact ⟨fun Q E hq => e1 C.prog C.w E Q (hq s.toks), fun Q E hq => e2 C.prog C.w E Q (hq s.toks)⟩
    · cases he

theorem cmp2_sound {a b : PV} {x y : Value} {r : Bool} {op : CmpOp} {f : Int → Int → Bool} {f' : Str → Str → Bool} (hx : C.VR g s.heap a x) (hy : C.VR g s.heap b y)
    (he : both intOf intOf a b (fun x y => some (f x y)) (both strOf strOf a b (fun x y => some (f' x y)) none) = some r)
    (hi : ∀ i j t u, r = f i j → wpAny (model C.prog C.w) A (compareOp op (.int i t) (.int j u)) Q E s) (hs : ∀ i j t u, r = f' i j → wpAny (model C.prog C.w) A (compareOp op (.str i t) (.str j u)) Q E s) :
    wpAny (model C.prog C.w) A (compareOp op x y) Q E s := by
  rcases some2 he with ⟨i, j, e1, e2, e⟩ | he
  · obtain ⟨t, u, rfl, rfl⟩ := ints_vr hx hy e1 e2
    exact hi i j t u (Option.some.inj e).symm
  · rcases some2 he with ⟨i, j, e1, e2, e⟩ | he
    · obtain ⟨t, u, rfl, rfl⟩ := strs_vr hx hy e1 e2
      exact hs i j t u (Option.some.inj e).symm
    · cases he
open Classical in
theorem cmpP_sound (hA : AOK A d) (R : C.Rel σ g s.heap) {op : CmpOp} {a b : PV} {x y : Value} {r : Bool} (hx : C.VR g s.heap a x) (hy : C.VR g s.heap b y) (he : cmpP σ op a b = some r)
    (hq : ∀ tk, Q (.bool r) { s with toks := tk }) : wpAny (model C.prog C.w) A (compareOp op x y) Q E s := by
  cases op with
  | Eq => exact (eqP_sound hA R hx hy he).1 Q E hq
  | NotEq =>
    obtain ⟨r', h1, rfl⟩ := Option.map_eq_some_iff.mp (show (eqP σ a b).map (!·) = some r from he)
    exact (eqP_sound hA R hx hy h1).2 Q E hq
  | Lt => exact cmp2_sound hx hy he (fun _ _ _ _ e => by subst e; exact wpAny_lt_int (hq _)) (fun _ _ _ _ e => by subst e; exact PyProof.Rows.lt_str (hq _))
  | LtE => exact cmp2_sound hx hy he (fun _ _ _ _ e => by subst e; exact PyProof.Rows.le_int (hq _)) (fun _ _ _ _ e => by subst e; exact P.le_str (hq _))
  | Gt => exact cmp2_sound hx hy he (fun _ _ _ _ e => by subst e; exact PyProof.Rows.gt_int (hq _)) (fun _ _ _ _ e => by subst e; exact P.gt_str (hq _))
  | _ => cases he

theorem small_le {n : Nat} (h : small n = true) : n ≤ 1000000 := by simpa [small] using h

theorem isEmpty_len {vs : Array Value} {n : Nat} (h : vs.size = n) : (!vs.isEmpty) = (n != 0) := by
  subst h
  rw [Bool.eq_iff_iff]; simp [Array.isEmpty]
theorem len_cast (n : Nat) : ((n : Int) != 0) = (n != 0) := by rw [Bool.eq_iff_iff]; simp

theorem truthN_some {n : Nat} {r : Bool} (h : truthN n = some r) : n ≤ 1000000 ∧ r = (n != 0) := by
  unfold truthN at h
  split at h
  · exact ⟨small_le ‹_›, (Option.some.inj h).symm⟩
  · cases h
theorem truth_sound (R : C.Rel σ g s.heap) {v : PV} {x : Value} {r : Bool} {Q : Bool → Shared → Prop} (hv : C.VR g s.heap v x) (he : truth σ v = some r) (hq : ∀ tk, Q r { s with toks := tk }) :
    wpAny (model C.prog C.w) A (truthy x) Q E s := by
  have hd := deref_sound R hv
  have he : truthD (deref σ v) = some r := he
  generalize deref σ v = w at hd he
  cases w with
  | none => cases hd; cases he; exact truthy_none (hq _)
  | bool b => cases hd; cases he; exact wpAny_truthy_bool (hq _)
  | int i => obtain ⟨t, rfl⟩ := hd; cases he; exact PyProof.Rows.truthy_int (hq _)
  | str y =>
    obtain ⟨t, rfl⟩ := hd
    obtain ⟨h5, rfl⟩ := truthN_some he
    exact P.truthy_str (by lia) (by rw [len_cast]; exact hq _)
  | tup l =>
    obtain ⟨a, vs, rfl, h1, h2⟩ := hd
    obtain ⟨h5, rfl⟩ := truthN_some he
    have h6 := h2.size
    exact truthy_tuple (isTuple_of h1) (by lia) (by rw [isEmpty_len h6]; exact hq _)
  | lst l =>
    obtain ⟨a, vs, rfl, h1, h2⟩ := hd
    obtain ⟨h5, rfl⟩ := truthN_some he
    have h6 := h2.size
    exact wpAny_truthy_list (isList_of h1) (by lia) (by rw [isEmpty_len h6]; exact hq _)
  | _ => cases he
end Mine

set_option autoImplicit false
set_option backward.match.sparseCases true
namespace Mine
open PySem PyProof.Rows PySem.SeqAt

variable {C : Fix} {σ : AH} {g g' : Cfg} {h h' : Heap} {s s' : Shared} {own : Addr → Prop} {A : Around} {d : Nat}
  {Q : Value → Shared → Prop} {E : Value → Shared → Prop}

theorem pickAt_some {l : List PV} {k : Int} {o : Out} (h : pickAt l k = some o) : 0 ≤ k ∧ k ≤ 1000000 ∧ ∃ v, l[k.toNat]? = some v ∧ o = .v v := by
  unfold pickAt at h
  split at h
  · rename_i hk
    obtain ⟨v, h1, h2⟩ := Option.map_eq_some_iff.mp h
    exact ⟨hk.1, hk.2, v, h1, h2.symm⟩
  · cases h

theorem seqIndex_nat {k : Int} {n : Nat} (h0 : 0 ≤ k) (h1 : k.toNat < n) : seqIndex? k n = some k.toNat := by
  unfold seqIndex?
  have h2 : ¬ k < 0 := by lia
  simp only [h2, if_false]
  split
  · rfl
  · rename_i h3; simp at h3; lia

theorem getAt_tail (R : C.Rel σ g s.heap) {value slice : Expr} {a i : PV} {x y : Value} (hx : C.VR g s.heap a x) (hy : C.VR g s.heap i y) (hn : notSlice slice = true)
    (hp : PostO C σ g s (getAt σ a i) Q) : wpAny (model C.prog C.w) A (subscriptTail value slice x y) Q E s := by
  have hs : ∀ o i, subscripted slice false o i = operate [o, i] (getItem o i) := fun o i => by
    cases slice <;> first | rfl | cases hn
  have hd := deref_sound R hx
  rcases hp.both with ⟨l, k, e1, e2, hp⟩ | hp
  · obtain ⟨u, rfl⟩ := int_vr e2 hy
    obtain ⟨o, ho, hp⟩ : ∃ o, pickAt l k = some o ∧ PostO C σ g s (some o) Q := by
      cases ho : pickAt l k with
      | none => rw [ho] at hp; exact hp.elim
      | some o => rw [ho] at hp; exact ⟨o, rfl, hp⟩
    obtain ⟨h0, h1, v, h2, rfl⟩ := pickAt_some ho
    have hlt : k.toNat < l.length := (List.getElem?_eq_some_iff.mp h2).1
    rcases seqOf_eq e1 with e1 | e1
    · rw [e1] at hd
      obtain ⟨p, vs, rfl, hl, hv⟩ := hd
      have hl := isTuple_of hl
      obtain ⟨z, h3, h4⟩ := hv.get h2
      exact tail_any (o := .ref _) (show s.TypeIs _ "tuple" from let ⟨ob, q1, q2, _⟩ := hl; ⟨ob, q1, q2⟩) PySem.F.slot_tuple_getitem.lookup (PyProof.Rows.getItem_tuple hl (by lia) (by lia) (seqIndex_nat h0 (by rw [hv.size]; exact hlt)) (by simpa using h3) (hp.val (tk := s.toks) R h4)) (hs _ _)
    · rw [e1] at hd
      obtain ⟨p, vs, rfl, hl, hv⟩ := hd
      have hl := isList_of hl
      obtain ⟨z, h3, h4⟩ := hv.get h2
      exact tail_any hl.typeIs slot_list_getitem.lookup (wpAny_getItem_list hl h0 (by lia) (by simpa using h3) (hp.val (tk := s.toks) R h4)) (hs _ _)
  · rcases hp.both with ⟨z, k, e1, e2, hp⟩ | hp
    · obtain ⟨u, rfl⟩ := int_vr e2 hy
      obtain ⟨t, rfl⟩ := str_vr e1 hx
      unfold signOf at hp
      split at hp
      · rename_i h0
        cases hc : z.cps[k.toNat]? with
        | none => rw [hc] at hp; exact hp.elim
        | some c =>
          rw [hc] at hp
          have hlt : k.toNat < z.length := (Array.getElem?_eq_some_iff.mp hc).1
          refine tail_any (typeIs_str s z t) PySem.F.slot_str_getitem.lookup (PyProof.Rows.getItem_str (c := c) ?_ ?_ (hp.val R (.str ..))) (hs _ _)
          · rw [decide_eq_false (by lia), decide_eq_false (by lia)]; rfl
          · rw [seqIndex_nat h0.1 hlt]; exact hc
      · exact hp.elim
    · rcases hp.both with ⟨l, k, e1, e2, hp⟩ | hp
      · obtain ⟨u, rfl⟩ := str_vr e2 hy
        rw [dctOf_eq e1] at hd
        obtain ⟨p, kvs, rfl, _, hl, hv⟩ := hd
        have := hv.get k
        cases ho : dget l k with
        | none => rw [ho] at hp; exact hp.elim
        | some v =>
          rw [ho] at hp this
          obtain ⟨z, h1, h2⟩ := this
          exact tail_any hl.typeIs slot_dict_getitem.lookup (wpAny_getItem_of (strKind_is C.prog C.w k u) hl.mapOf h1 (hp.val R h2)) (hs _ _)
      · exact hp.elim
end Mine

set_option autoImplicit false
set_option backward.match.sparseCases true
namespace Mine
open PySem PyProof.Rows PySem.SeqAt

variable {C : Fix} {σ : AH} {g g' : Cfg} {h h' : Heap} {s s' : Shared} {own : Addr → Prop} {A : Around} {d : Nat}
  {Q : Value → Shared → Prop} {E : Value → Shared → Prop}

theorem vrd_keys {l : List (Str × PV)} {kvs : List (Str × Value)} (hv : C.VRd g h l kvs) {i : Nat} {k : Str} {x z : Value} (h1 : kvs[i]? = some (k, x)) (h2 : (strKind C.prog C.w).is k z = true) {u : PV}
    (h3 : (l.map fun kv => PV.str kv.1)[i]? = some u) : C.VR g h u z := by
  obtain ⟨t, rfl⟩ := Value.isStrOf_shape h2
  have hk := hv.keys
  have e1 : (kvs.map (·.1))[i]? = some k := by rw [List.getElem?_map, h1]; rfl
  rw [hk, List.getElem?_map] at e1
  rw [List.getElem?_map] at h3
  cases hq : l[i]? with
  | none => rw [hq] at h3; cases h3
  | some p =>
    rw [hq] at h3 e1
    simp only [Option.map_some, Option.some.injEq] at h3 e1
    subst h3 e1
    exact .str ..

theorem ints_get {lo hi : Int} {i : Nat} {u : PV} (h : (rngInts lo hi)[i]? = some u) : u = .int (lo + i) := by
  unfold rngInts at h
  rw [List.getElem?_map] at h
  cases hq : (List.range (hi - lo).toNat)[i]? with
  | none => rw [hq] at h; cases h
  | some p =>
    rw [hq] at h
    have hlt := (List.getElem?_eq_some_iff.mp hq).1
    have : p = i := by simpa using ((List.getElem?_eq_some_iff.mp hq).2).symm
    subst this
    simpa using h.symm
theorem ints_len (lo hi : Int) : (rngInts lo hi).length = (hi - lo).toNat := by simp [rngInts]

theorem walks_len {prog : Program} {w : World} {I : Addr} {fp wr : List Addr} {n m : Nat} {P : Nat → Value → Prop} {St : Nat → Heap → Prop} (e : n = m) (W : Walks prog w A I fp wr n P St) : Walks prog w A I fp wr m P St := by subst e; exact W

noncomputable def PlainIter (h : Heap) (I : Addr) : Prop := ∃ ob n, h.get? I = some ob ∧ ob.cls = .type n ∧ ["enumerate", "zip", "dict_itemiterator", "dict_reverseitemiterator", "odict_iterator", "itertools.zip_longest", "itertools.pairwise"].contains n = false
theorem pyIter_sound (hh : A.handled = none) (R : C.Rel σ g s.heap) {v : PV} {x : Value} {l : List PV} (hv : C.VR g s.heap v x) (hi : items σ v = some l)
    (hq : ∀ (o : Obj) (fp : List Addr) (P : Nat → Value → Prop) (St : Nat → Heap → Prop), Walks C.prog C.w A s.heap.objs.size fp [s.heap.objs.size] l.length P St → St 0 (s.heap.push o) → (∀ b ∈ fp, b = s.heap.objs.size ∨ x = .ref b) → (∀ i z u, P i z → l[i]? = some u → C.VR g s.heap u z) → (∀ i h, St i h → PlainIter h s.heap.objs.size) → Q (.ref s.heap.objs.size) { s with heap := s.heap.push o }) :
    wpAny (model C.prog C.w) A (pyIter x) Q E s := by
  have ne : ∀ {a : Addr} {o : Obj}, s.heap.get? a = some o → a ≠ s.heap.objs.size := fun e => Nat.ne_of_lt (Heap.lt_size e)
  have list : ∀ {a : Addr} {vs : Array Value} {r : List PV}, x = .ref a → r = l → s.heap.IsList a vs → C.VRs g s.heap r vs.toList → wpAny (model C.prog C.w) A (pyIter x) Q E s := by
    rintro a vs r rfl rfl hl hr
    obtain ⟨o, ho, hrest⟩ := id hl
    refine wpAny_pyIter_list hl (hq _ [s.heap.objs.size, a] _ _ (walks_len hr.size (Walks.list hh s.heap.objs.size a (ne ho) vs)) ⟨⟨_, Heap.get?_push_size _ rfl, rfl, rfl⟩, hl.push _⟩ (fun b hb => ?_) (fun i z u h1 h2 => ?_) (fun i h st => by obtain ⟨⟨ob, q1, q2, _⟩, _⟩ := st; exact ⟨ob, _, q1, q2, by decide⟩))
    · rcases List.mem_cons.mp hb with e | e
      · exact .inl e
      · exact .inr (by rw [List.mem_singleton.mp e])
    · obtain ⟨y, h3, h4⟩ := hr.get h2
      have h1' : vs.toList[i]? = some z := by simpa using h1
      rw [h1'] at h3; cases h3; exact h4
  have dict : ∀ {a : Addr} {kvs : List (Str × Value)} {r : List (Str × PV)}, x = .ref a → (r.map fun kv => PV.str kv.1) = l → a ≠ sysModules → s.heap.DictOf (strKind C.prog C.w) a kvs → C.VRd g s.heap r kvs → wpAny (model C.prog C.w) A (pyIter x) Q E s := by
    rintro a kvs r rfl rfl hm hl hr
    obtain ⟨ep, hd⟩ := hl.dictAt
    obtain ⟨o, es, ho, hrest⟩ := id hd
    have hlen : kvs.length = (r.map fun kv => PV.str kv.1).length := by rw [List.length_map, hr.length]
    refine wpAny_pyIter_dict (by simpa using hm) hd (hq _ [s.heap.objs.size, a] _ _ (walks_len hlen (Walks.dictKeys hh s.heap.objs.size a (ne ho) kvs ep)) ⟨⟨_, Heap.get?_push_size _ rfl, rfl, rfl⟩, hd.keep fun b o e => Heap.get?_push_of_some _ e⟩ (fun b hb => ?_) (fun i z u h1 h2 => ?_) (fun i h st => by obtain ⟨⟨ob, q1, q2, _⟩, _⟩ := st; exact ⟨ob, _, q1, q2, by decide⟩))
    · rcases List.mem_cons.mp hb with e | e
      · exact .inl e
      · exact .inr (by rw [List.mem_singleton.mp e])
    · obtain ⟨k, y, h3, h4⟩ := h1
      exact vrd_keys hr h3 h4 h2
  have hd := deref_sound R hv
  have hi : itemsD (deref σ v) = some l := hi
  generalize deref σ v = w at hd hi
  cases w with
  | str y =>
    obtain ⟨t, rfl⟩ := hd
    have hi : signs y = l := Option.some.inj hi
    have hlen : y.cps.size = l.length := by rw [← hi]; simp [signs]
    have hP : ∀ (i : Nat) z u, SignAt y i z → l[i]? = some u → C.VR g s.heap u z := fun i z u h1 h2 => by
      obtain ⟨c, t', h3, rfl⟩ := h1
      rw [← hi] at h2
      have : u = .str ⟨#[c]⟩ := by
        simp only [signs, List.getElem?_map, Array.getElem?_toList, h3, Option.map_some, Option.some.injEq] at h2
        exact h2.symm
      subst this; exact .str ..
    cases ha : y.cps.all (· < 128)
    · exact wpAny_pyIter_wide ha (hq _ [s.heap.objs.size] _ _ (walks_len hlen (Walks.strWide hh _ y t)) ⟨_, Heap.get?_push_size _ rfl, rfl, rfl⟩ (fun b hb => .inl (List.mem_singleton.mp hb)) hP fun i h st => by obtain ⟨ob, q1, q2, _⟩ := st; exact ⟨ob, _, q1, q2, by decide⟩)
    · exact wpAny_pyIter_ascii ha (hq _ [s.heap.objs.size] _ _ (walks_len hlen (Walks.strAscii hh _ y t)) ⟨_, Heap.get?_push_size _ rfl, rfl, rfl⟩ (fun b hb => .inl (List.mem_singleton.mp hb)) hP fun i h st => by obtain ⟨ob, q1, q2, _⟩ := st; exact ⟨ob, _, q1, q2, by decide⟩)
  | tup r =>
    obtain ⟨a, vs, rfl, hl, hr⟩ := hd
    have hl := isTuple_of hl
    have hi : r = l := Option.some.inj hi
    subst hi
    obtain ⟨o, ho, hrest⟩ := id hl
    refine wpAny_pyIter_tuple hl (hq _ [s.heap.objs.size, a] _ _ (walks_len hr.size (Walks.tuple hh s.heap.objs.size a (ne ho) vs)) ⟨⟨_, Heap.get?_push_size _ rfl, rfl, rfl⟩, hl.push _⟩ (fun b hb => ?_) (fun i z u h1 h2 => ?_) (fun i h st => by obtain ⟨⟨ob, q1, q2, _⟩, _⟩ := st; exact ⟨ob, _, q1, q2, by decide⟩))
    · rcases List.mem_cons.mp hb with e | e
      · exact .inl e
      · exact .inr (by rw [List.mem_singleton.mp e])
    · obtain ⟨y, h3, h4⟩ := hr.get h2
      have h1' : vs.toList[i]? = some z := by simpa using h1
      rw [h1'] at h3; cases h3; exact h4
  | lst r => obtain ⟨a, vs, rfl, hl, hr⟩ := hd; exact list rfl (Option.some.inj hi) (isList_of hl) hr
  | dct r => obtain ⟨a, vs, rfl, hm, hl, hr⟩ := hd; exact dict rfl (Option.some.inj hi) hm hl hr
  | rng lo hi' =>
    obtain ⟨a, rfl, b1, b2, t, u, w', hr⟩ := hd
    have hi : rngInts lo hi' = l := Option.some.inj hi
    subst hi
    have hsz := rangeSize_one lo hi'
    refine wpAny_pyIter_range hr (small_one (by lia) (by lia) (by lia) (by lia)) (hq _ [s.heap.objs.size] _ _ (walks_len (ints_len lo hi').symm (Walks.range hh s.heap.objs.size lo 1 (hi' - lo).toNat)) ?_ (fun b hb => .inl (List.mem_singleton.mp hb)) (fun i z y h1 h2 => ?_) (fun i h st => ⟨_, _, st, rfl, by decide⟩))
    · show IsRangeIter _ _ (lo + ((0 : Nat) : Int) * 1) (((hi' - lo).toNat : Int) - ((0 : Nat) : Int)) 1
      have e1 : lo + ((0 : Nat) : Int) * 1 = lo := by simp
      have e2 : (((hi' - lo).toNat : Int) - ((0 : Nat) : Int)) = Builtin.Range.rangeSize lo hi' 1 := by rw [hsz]; split <;> lia
      rw [e1, e2]
      exact Heap.get?_push_size _ rfl
    · obtain ⟨t', rfl⟩ := h1
      rw [ints_get h2, Int.mul_one]
      exact .int ..
  | _ => cases hi
end Mine

set_option autoImplicit false
set_option backward.match.sparseCases true
namespace Mine
open PySem PyProof.Rows PySem.SeqAt

variable {C : Fix} {σ : AH} {g g' : Cfg} {h h' : Heap} {s s' : Shared} {own : Addr → Prop} {A : Around} {d : Nat}
  {Q : Value → Shared → Prop} {E : Value → Shared → Prop}

noncomputable def Ty.val : Ty → Value
  | .int => .type "int" | .bool => .type "bool" | .str => .type "str" | .tuple => .type "tuple" | .list => .type "list" | .dict => .type "dict"

theorem isList_cls {h : Heap} {a : Addr} {vs : Array Value} (x : h.IsList a vs) : ∃ o, h.get? a = some o ∧ o.cls = .type "list" := let ⟨o, h1, h2, _⟩ := x; ⟨o, h1, h2⟩
theorem isTuple_cls {h : Heap} {a : Addr} {vs : Array Value} (x : h.IsTuple a vs) : ∃ o, h.get? a = some o ∧ o.cls = .type "tuple" := let ⟨o, h1, h2, _⟩ := x; ⟨o, h1, h2⟩
theorem dictOf_cls {prog : Program} {w : World} {h : Heap} {a : Addr} {kvs : List (Str × Value)} (x : h.DictOf (strKind prog w) a kvs) : ∃ o, h.get? a = some o ∧ o.cls = .type "dict" := let ⟨o, _, _, h1, h2, _⟩ := x; ⟨o, h1, h2.1⟩

theorem isinst_sound (R : C.Rel σ g s.heap) {t : Ty} {v : PV} {x : Value} {r : Bool} (hv : C.VR g s.heap v x) (he : isTy σ t v = some r) (hq : ∀ tk, Q (.bool r) { s with toks := tk }) :
    wpAny (model C.prog C.w) A (call (.builtin "isinstance") [x, t.val]) Q E s := by
  have hd := deref_sound R hv
  have he : isTyD t (deref σ v) = some r := he
  generalize deref σ v = w at hd he
  cases w with
  | none => cases hd; cases he; cases t <;> first | exact IsiPair.NoneType_int (hq _) | exact IsiPair.NoneType_bool (hq _) | exact IsiPair.NoneType_str (hq _) | exact IsiPair.NoneType_tuple (hq _) | exact IsiPair.NoneType_list (hq _) | exact IsiPair.NoneType_dict (hq _)
  | bool b => cases hd; cases he; cases t <;> first | exact IsiPair.bool_int (hq _) | exact IsiPair.bool_bool (hq _) | exact IsiPair.bool_str (hq _) | exact IsiPair.bool_tuple (hq _) | exact IsiPair.bool_list (hq _) | exact IsiPair.bool_dict (hq _)
  | int i => obtain ⟨u, rfl⟩ := hd; cases he; cases t <;> first | exact IsiPair.int_int (hq _) | exact IsiPair.int_bool (hq _) | exact IsiPair.int_str (hq _) | exact IsiPair.int_tuple (hq _) | exact IsiPair.int_list (hq _) | exact IsiPair.int_dict (hq _)
  | str y => obtain ⟨u, rfl⟩ := hd; cases he; cases t <;> first | exact IsiPair.str_int (hq _) | exact IsiPair.str_bool (hq _) | exact IsiPair.str_str (hq _) | exact IsiPair.str_tuple (hq _) | exact IsiPair.str_list (hq _) | exact IsiPair.str_dict (hq _)
  | tup l =>
    obtain ⟨a, vs, rfl, hl, hr⟩ := hd
    obtain ⟨o, h1, h2⟩ := isTuple_cls (isTuple_of hl)
    cases he
    cases t <;> first | exact IsiPair.tuple_int h1 h2 (hq _) | exact IsiPair.tuple_bool h1 h2 (hq _) | exact IsiPair.tuple_str h1 h2 (hq _) | exact IsiPair.tuple_tuple h1 h2 (hq _) | exact IsiPair.tuple_list h1 h2 (hq _) | exact IsiPair.tuple_dict h1 h2 (hq _)
  | lst l =>
    obtain ⟨a, vs, rfl, hl, hr⟩ := hd
    obtain ⟨o, h1, h2⟩ := isList_cls (isList_of hl)
    cases he
    cases t <;> first | exact IsiPair.list_int h1 h2 (hq _) | exact IsiPair.list_bool h1 h2 (hq _) | exact IsiPair.list_str h1 h2 (hq _) | exact IsiPair.list_tuple h1 h2 (hq _) | exact IsiPair.list_list h1 h2 (hq _) | exact IsiPair.list_dict h1 h2 (hq _)
  | dct l =>
    obtain ⟨a, vs, rfl, hm, hl, hr⟩ := hd
    obtain ⟨o, h1, h2⟩ := dictOf_cls hl
    cases he
    cases t <;> first | exact IsiPair.dict_int h1 h2 (hq _) | exact IsiPair.dict_bool h1 h2 (hq _) | exact IsiPair.dict_str h1 h2 (hq _) | exact IsiPair.dict_tuple h1 h2 (hq _) | exact IsiPair.dict_list h1 h2 (hq _) | exact IsiPair.dict_dict h1 h2 (hq _)
  | _ => cases he

theorem len_sound (R : C.Rel σ g s.heap) {v : PV} {x : Value} {n : Nat} (hv : C.VR g s.heap v x) (he : lenP σ v = some n) (hn : n ≤ 1000000) (hq : ∀ t tk, Q (.int n t) { s with toks := tk }) :
    wpAny (model C.prog C.w) A (call (.builtin "len") [x]) Q E s := by
  have hd := deref_sound R hv
  have he : lenD (deref σ v) = some n := he
  generalize deref σ v = w at hd he
  cases w with
  | str y => obtain ⟨t, rfl⟩ := hd; cases he; exact PyProof.Rows.len_str (by lia) (hq _ _)
  | tup l =>
    obtain ⟨a, vs, rfl, hl, hr⟩ := hd
    cases he
    have h4 := hr.size
    exact PyProof.Rows.len_tuple (isTuple_of hl) (by lia) (by rw [h4]; exact hq _ _)
  | lst l =>
    obtain ⟨a, vs, rfl, hl, hr⟩ := hd
    cases he
    have h4 := hr.size
    exact Calls.call_len_list (isList_of hl) (by lia) (by rw [h4]; exact hq _ _)
  | dct l =>
    obtain ⟨a, kvs, rfl, hm, hl, hr⟩ := hd
    cases he
    have h4 := hr.length
    exact call_len_dict (by simpa using hm) hl (by lia) (by rw [← h4]; exact hq _ _)
  | _ => cases he

/-- a new object somewhere behind: frozen -/
theorem PostO.newAt {v : PV} {x : Value} (hp : PostO C σ g s (some (.v v)) Q) (R : C.Rel σ g s.heap) {a : Addr} {h' : Heap} {tk : Nat} (hk : ∀ b o, s.heap.get? b = some o → h'.get? b = some o) (ha : s.heap.get? a = none) (hl : (h'.get? a).isSome = true)
    (hv : C.VR (g.frz a) h' v x) : Q x { s with heap := h', toks := tk } :=
  hp (g.frz a) _ _ ((Ext.all hk).frz ha) ((R.kept (.of_all hk)).frz (R.fresh ha).1 hl) hv
theorem PostO.madeAt {f : Frs} (hp : PostO C σ g s (some (.f f)) Q) (R : C.Rel σ g s.heap) {a : Addr} {h' : Heap} {tk : Nat} (hk : ∀ b o, s.heap.get? b = some o → h'.get? b = some o) (ha : s.heap.get? a = none)
    (hr : FrsR C g h' f a) : Q (.ref a) { s with heap := h', toks := tk } :=
  hp g _ _ (Ext.all hk) (R.kept (.of_all hk)) ⟨_, rfl, ha, (R.fresh ha).1, (R.fresh ha).2, hr⟩

theorem asSeq_cases {v : PV} {l : List PV} (hl : asSeq σ v = some l) : v = .tup l ∨ asList σ v = some l := by
  cases v with
  | tup r => exact .inl (congrArg PV.tup (Option.some.inj hl))
  | ref i =>
    refine .inr ?_
    have hl : seqOf (derefO σ[i]?) = some l := hl
    show lstOf (derefO σ[i]?) = some l
    generalize σ[i]? = o at hl
    rcases o with _ | (_ | _) <;> exact hl
  | _ => exact .inr hl
theorem tuple_sound (R : C.Rel σ g s.heap) {v : PV} {x : Value} {l : List PV} (hv : C.VR g s.heap v x) (he : asSeq σ v = some l) (hn : l.length ≤ 1000000) (hp : PostO C σ g s (some (.v (.tup l))) Q) :
    wpAny (model C.prog C.w) A (call (.type "tuple") [x]) Q E s := by
  rcases asSeq_cases he with rfl | he
  · have hv0 := hv
    obtain ⟨a, vs, rfl, h1, h2⟩ := VR_inv hv
    exact call_tuple_same (isTuple_of h1) (hp.val (tk := s.toks) R hv0)
  · obtain ⟨a, vs, rfl, h2, h3⟩ := asList_sound R he hv
    have h4 := h3.size
    refine call_tuple_list h2 (fun h' hk => ?_) (by rw [h4, sizeLine_eq]; lia)
    have hk' : ∀ b o, s.heap.get? b = some o → (h'.push { cls := .type "tuple", data := .seq vs }).get? b = some o := fun b o e => Heap.get?_push_of_some _ (hk b o e)
    have hnone : s.heap.get? h'.objs.size = none := by
      cases hq : s.heap.get? h'.objs.size with
      | none => rfl
      | some o => exact absurd (Heap.lt_size (hk _ _ hq)) (Nat.lt_irrefl _)
    refine hp.newAt (tk := s.toks) R hk' hnone (isSome_of (Heap.get?_push_size _ rfl)) (.tup (.inr rfl) ⟨_, Heap.get?_push_size _ rfl⟩ (VRs_frz (C := C) (VRs_kept (C := C) (.of_all hk') h3)))

theorem vrs_of_items {l : List PV} {acc : Array Value} {P : Nat → Value → Prop} (hi : ItemsOf P acc l.length) (hP : ∀ i z u, P i z → l[i]? = some u → C.VR g h u z) : C.VRs g h l acc.toList := by
  obtain ⟨h1, h2⟩ := hi
  have key : ∀ (l : List PV) (xs : List Value), l.length = xs.length → (∀ (i : Nat) u z, l[i]? = some u → xs[i]? = some z → C.VR g h u z) → C.VRs g h l xs := by
    intro l
    induction l with
    | nil => intro xs hl _; cases xs with | nil => exact .nil | cons => cases hl
    | cons a l ih => intro xs hl hh; cases xs with
      | nil => cases hl
      | cons x xs => exact .cons (hh 0 a x rfl rfl) (ih xs (by simpa using hl) fun i u z e1 e2 => hh (i + 1) u z (by simpa using e1) (by simpa using e2))
  exact key l acc.toList (by simp [h1]) fun i u z e1 e2 => hP i z u (h2 i z (by simpa using e2)) e1

end Mine

set_option autoImplicit false
set_option backward.match.sparseCases true
set_option linter.unusedVariables false
namespace Mine
open PySem PyProof.Rows

section
variable {prog : Program} {w : World} {A : Around} {E : Value → Shared → Prop} {s : Shared} {b : Array Keyed} {κ : PyProof.Rows.KeyKind} {lo : Nat} {p : Array (Nat × Nat × Nat)}

/-- the state of a sort: the array is a rearrangement of b whose keys ahead of lo are b's -/
structure SI (κ : PyProof.Rows.KeyKind) (b : Array Keyed) (lo : Nat) (p : Array (Nat × Nat × Nat)) (st : SortSt) : Prop where
  perm : (arrOf st).Perm b
  kind : kindOf st = oneType'
  failed : failedOf st = none
  pend : pendingOf st = p
  ahead : ∀ k, k < lo → KK κ (arrOf st) k = KK κ b k
theorem SI.size {st : SortSt} (h : SI κ b lo p st) : (arrOf st).size = b.size := h.perm.size_eq
theorem SI.setArr {st : SortSt} (h : SI κ b lo p st) {xs : Array Keyed} (hp : xs.Perm (arrOf st)) (ha : ∀ k, k < lo → KK κ xs k = KK κ (arrOf st) k) : SI κ b lo p (setArr st xs) :=
  ⟨hp.trans h.perm, h.kind, h.failed, h.pend, fun k hk => (ha k hk).trans (h.ahead k hk)⟩

noncomputable def kyOf (κ : PyProof.Rows.KeyKind) (x : Keyed) : κ.α := (κ.keyOf x.1).getD κ.dflt
theorem KK_some {xs : Array Keyed} {i : Nat} {x : Keyed} (h : xs[i]? = some x) : KK κ xs i = kyOf κ x := by unfold KK kyOf; rw [h]

theorem wpS_elem {xs : Array Keyed} {i : Nat} {x : Keyed} {st : SortSt} {Q : Keyed → SortSt → Prop} (h : xs[i]? = some x) (hq : Q x st) : wpS (model prog w) A E s (elem' xs i) Q st := by
  rw [elem'_eq, h]; exact wpS_pure hq
theorem wpS_ltP (hO : κ.OneLt) {x y : Keyed} {st : SortSt} {Q : Option Bool → SortSt → Prop} (hk : kindOf st = oneType') (hx : ∃ a, κ.keyOf x.1 = some a) (hy : ∃ a, κ.keyOf y.1 = some a)
    (h : Q (some (κ.blt (kyOf κ x) (kyOf κ y))) st) : wpS (model prog w) A E s (lt' x y) Q st := by
  obtain ⟨a, ha⟩ := hx
  obtain ⟨c, hc⟩ := hy
  rw [lt'_eq]
  refine wpS_bind (wpS_get ?_)
  rw [hk, keyLt'_oneType]
  refine wpS_bind (wpS_lift (wpAny_attempt (hO prog w A _ s x.1 y.1 a c ha hc ⟨rfl, ?_⟩)))
  refine wpS_pure ?_
  simpa [kyOf, ha, hc] using h
theorem wpS_lt {st : SortSt} {i j : Nat} {Q : Option Bool → SortSt → Prop} (hO : κ.OneLt) (hB : SI κ b lo p st) (h0 : KeysOf κ b) (hi : i < b.size) (hj : j < b.size)
    (h : Q (some (κ.blt (KK κ (arrOf st) i) (KK κ (arrOf st) j))) st) : wpS (model prog w) A E s (ltAt' i j) Q st := by
  have hi' : i < (arrOf st).size := by rw [hB.size]; exact hi
  have hj' : j < (arrOf st).size := by rw [hB.size]; exact hj
  have m : ∀ {k : Nat} (hk : k < (arrOf st).size), ∃ a, κ.keyOf (arrOf st)[k].1 = some a := fun hk => h0 _ ((Array.perm_iff_toList_perm.mp hB.perm).mem_iff.mp (by simp))
  have ei : (arrOf st)[i]? = some (arrOf st)[i] := getElem?_pos _ i hi'
  have ej : (arrOf st)[j]? = some (arrOf st)[j] := getElem?_pos _ j hj'
  rw [ltAt'_eq]
  refine wpS_bind (wpS_get ?_)
  show wpS _ _ _ _ (do let x ← elem' (arrOf st) i; let y ← elem' (arrOf st) j; lt' x y) Q st
  refine wpS_bind (wpS_elem ei (wpS_bind (wpS_elem ej ?_)))
  refine wpS_ltP hO hB.kind (m hi') (m hj') ?_
  rw [← KK_some ei, ← KK_some ej]; exact h

noncomputable def Srt (κ : PyProof.Rows.KeyKind) (xs : Array Keyed) (lo n : Nat) : Prop := ∀ i j, i ≤ j → j < n → κ.kle (KK κ xs (lo + i)) (KK κ xs (lo + j))
noncomputable def Nin (κ : PyProof.Rows.KeyKind) (xs : Array Keyed) (lo n : Nat) : Prop := ∀ i j, i ≤ j → j < n → κ.kle (KK κ xs (lo + j)) (KK κ xs (lo + i))

noncomputable def ascL (lo a nrem : Nat) : StateT SortSt Sem AscSt :=
  forIn [a:nrem] ((none, a) : AscSt) fun _ __s => do
    let __x ← ltAt' (lo + __s.snd) (lo + __s.snd - 1)
    match __x with
    | some smaller => if smaller = true then pure (ForInStep.done (none, __s.snd)) else pure (ForInStep.yield (none, __s.snd + 1))
    | _ => pure (ForInStep.done (some none, __s.snd))
noncomputable def tailL (lo n nrem : Nat) : StateT SortSt Sem (Option Nat) := do
  reverseSlice' lo (lo + n)
  let __s ← ascL lo n nrem
  match __s.fst with
  | some r => pure r
  | none => pure (some __s.snd)
noncomputable def descL (lo n nrem : Nat) : StateT SortSt Sem DescSt :=
  forIn [n:nrem] ((none, n, 0) : DescSt) fun _ __s => do
    let __x ← ltAt' (lo + __s.snd.fst) (lo + __s.snd.fst - 1)
    match __x with
    | some smaller =>
      if smaller = true then
        if __s.snd.snd > 0 then do
          reverseSlice' (lo + __s.snd.fst - (__s.snd.snd + 1)) (lo + __s.snd.fst)
          pure (ForInStep.yield (none, __s.snd.fst + 1, 0))
        else pure (ForInStep.yield (none, __s.snd.fst + 1, 0))
      else do
        let __x ← ltAt' (lo + __s.snd.fst - 1) (lo + __s.snd.fst)
        match __x with
        | some larger =>
          if larger = true then pure (ForInStep.done (none, __s.snd.fst, __s.snd.snd))
          else pure (ForInStep.yield (none, __s.snd.fst + 1, __s.snd.snd + 1))
        | _ => pure (ForInStep.done (some none, __s.snd.fst, __s.snd.snd))
    | _ => pure (ForInStep.done (some none, __s.snd.fst, __s.snd.snd))
noncomputable def descP (lo n nrem : Nat) : StateT SortSt Sem (Option Nat) := do
  liftM (rule "list.sort.descending-run")
  let __s ← descL lo (n + 1) nrem
  match __s.fst with
  | some r => pure r
  | none =>
    if __s.snd.snd > 0 then do
      reverseSlice' (lo + __s.snd.fst - (__s.snd.snd + 1)) (lo + __s.snd.fst)
      tailL lo __s.snd.fst nrem
    else tailL lo __s.snd.fst nrem

theorem countL_eq (lo nrem : Nat) : countRun' lo nrem = (do
    let __s ← ascL lo 1 nrem
    match __s.fst with
    | some r => pure r
    | none =>
      if (__s.snd == nrem) = true then pure (some __s.snd)
      else if __s.snd > 1 then do
        let __x ← ltAt' lo (lo + __s.snd - 1)
        match __x with
        | some rose => if rose = true then pure (some __s.snd) else do
            reverseSlice' lo (lo + __s.snd)
            descP lo __s.snd nrem
        | _ => pure none
      else descP lo __s.snd nrem) := by
  rw [countRun'_eq]
  dsimp only
  unfold descP tailL descL ascL
  congr 1
  funext __s
  obtain ⟨r, n⟩ := __s
  cases r with
  | some r => rfl
  | none =>
    dsimp only
    split
    · rfl
    · split
      · congr 1
        funext x
        cases x with
        | none => rfl
        | some rose =>
          dsimp only
          split
          · rfl
          · congr 1
            funext _r
            congr 1; funext _u; congr 1; congr 1; funext s2; obtain ⟨r2, n2, q2⟩ := s2
            cases r2 with
            | some r2 => rfl
            | none =>
              dsimp only
              split
              · congr 1; funext _v; congr 1; funext _w; congr 1; funext s3; obtain ⟨r3, n3⟩ := s3; cases r3 <;> rfl
              · congr 1; funext _w; congr 1; funext s3; obtain ⟨r3, n3⟩ := s3; cases r3 <;> rfl
      · congr 1; funext _u; congr 1; congr 1; funext s2; obtain ⟨r2, n2, q2⟩ := s2
        cases r2 with
        | some r2 => rfl
        | none =>
          dsimp only
          split
          · congr 1; funext _v; congr 1; funext _w; congr 1; funext s3; obtain ⟨r3, n3⟩ := s3; cases r3 <;> rfl
          · congr 1; funext _w; congr 1; funext s3; obtain ⟨r3, n3⟩ := s3; cases r3 <;> rfl
end
end Mine

set_option autoImplicit false
set_option backward.match.sparseCases true
set_option linter.unusedVariables false
namespace Mine
open PySem PyProof.Rows

section
variable {prog : Program} {w : World} {A : Around} {E : Value → Shared → Prop} {s : Shared} {b : Array Keyed} {κ : PyProof.Rows.KeyKind} {lo : Nat} {p : Array (Nat × Nat × Nat)}

theorem wpS_ascL {st : SortSt} {a nrem : Nat} {Q : AscSt → SortSt → Prop} (hO : κ.OneLt) (h0 : KeysOf κ b) (hn : lo + nrem ≤ b.size) (ha : 1 ≤ a) (han : a ≤ nrem) (hB : SI κ b lo p st)
    (hs : Srt κ (arrOf st) lo a)
    (h : ∀ n, a ≤ n → n ≤ nrem → Srt κ (arrOf st) lo n → (n = nrem ∨ κ.klt (KK κ (arrOf st) (lo + n)) (KK κ (arrOf st) (lo + n - 1))) → Q (none, n) st) :
    wpS (model prog w) A E s (ascL lo a nrem) Q st := by
  unfold ascL
  refine wpS_forRange (I := fun x c st' => st' = st ∧ c = (none, x) ∧ Srt κ (arrOf st) lo x) ?step ?fin ⟨rfl, rfl, hs⟩
  case fin =>
    rintro c st' ⟨rfl, rfl, hs'⟩
    rw [show max a nrem = nrem by exact ar62 han] at hs' ⊢
    exact h nrem han (Nat.le_refl _) hs' (.inl rfl)
  case step =>
    rintro x c st' hax hxn ⟨rfl, rfl, hs'⟩
    dsimp only
    refine wpS_bind (wpS_lt hO hB h0 (by exact ar23 hn hxn) (by exact ar58 hn hxn) ?_)
    cases hless : κ.blt (KK κ (arrOf st') (lo + x)) (KK κ (arrOf st') (lo + x - 1))
    case true =>
      simp only [if_true]
      exact wpS_pure (h x hax (by exact ar57 hxn) hs' (.inr hless))
    case false =>
      simp only [Bool.false_eq_true, if_false]
      refine wpS_pure ⟨rfl, rfl, fun i j hij hj => ?_⟩
      by_cases hjx : j < x
      · exact hs' i j hij hjx
      · have hj' : j = x := by exact ar34 hj hjx
        subst hj'
        by_cases hi' : i = j
        · subst hi'; exact KeyOrd.kle_refl _
        · have := hs' i (j - 1) (by exact ar55 hij hi') (by exact ar73 hij hi')
          rw [show lo + (j - 1) = lo + j - 1 by exact ar72 hij hi'] at this
          exact KeyOrd.kle_trans this hless

theorem wpS_tailL {st : SortSt} {n nrem : Nat} {Q : Option Nat → SortSt → Prop} (hO : κ.OneLt) (h0 : KeysOf κ b) (hn : lo + nrem ≤ b.size) (h1 : 1 ≤ n) (hnn : n ≤ nrem) (hB : SI κ b lo p st)
    (hs : Nin κ (arrOf st) lo n) (h : ∀ m st', SI κ b lo p st' → 1 ≤ m → m ≤ nrem → Srt κ (arrOf st') lo m → Q (some m) st') :
    wpS (model prog w) A E s (tailL lo n nrem) Q st := by
  unfold tailL
  have hsz : lo + n ≤ (arrOf st).size := by rw [hB.size]; exact ar44 hn hnn
  refine wpS_bind (wpS_reverse ?_)
  have hB' : SI κ b lo p (setArr st (mirror (arrOf st) lo (lo + n) ((lo + n - lo) / 2))) := hB.setArr (mirror_perm _ _ _ _) fun k hk => by rw [KK_mirror hsz, if_neg (by exact ar71 hk)]
  refine wpS_bind (wpS_ascL hO h0 hn h1 hnn hB' ?_ fun m hm1 hm2 hsm _ => wpS_pure (h m _ hB' (by exact ar70 h1 hm1) hm2 hsm))
  intro i j hij hj
  show κ.kle (KK κ (mirror (arrOf st) lo (lo + n) ((lo + n - lo) / 2)) (lo + i)) (KK κ (mirror (arrOf st) lo (lo + n) ((lo + n - lo) / 2)) (lo + j))
  rw [KK_mirror hsz, KK_mirror hsz, if_pos (by exact ar69 hij hj), if_pos (by exact ar68 hj)]
  have := hs (n - 1 - j) (n - 1 - i) (by exact ar67 hij) (by exact ar66 hj)
  rw [show lo + (lo + n) - 1 - (lo + i) = lo + (n - 1 - i) by exact ar65 hij hj, show lo + (lo + n) - 1 - (lo + j) = lo + (n - 1 - j) by exact ar64 hj]
  exact this

theorem wpS_descL {st : SortSt} {n nrem : Nat} {Q : DescSt → SortSt → Prop} (hO : κ.OneLt) (h0 : KeysOf κ b) (hn : lo + nrem ≤ b.size) (h1 : 1 ≤ n) (hnn : n ≤ nrem) (hB : SI κ b lo p st)
    (hs : Nin κ (arrOf st) lo n)
    (h : ∀ m neq st', SI κ b lo p st' → n ≤ m → m ≤ nrem → Nin κ (arrOf st') lo m → neq + 1 ≤ m → (∀ i, lo + m - (neq + 1) ≤ i → i < lo + m → KK κ (arrOf st') i = KK κ (arrOf st') (lo + m - 1)) → Q (none, m, neq) st') :
    wpS (model prog w) A E s (descL lo n nrem) Q st := by
  unfold descL
  refine wpS_forRange (I := fun x c st' => ∃ neq, c = (none, x, neq) ∧ SI κ b lo p st' ∧ Nin κ (arrOf st') lo x ∧ neq + 1 ≤ x ∧
      (∀ i, lo + x - (neq + 1) ≤ i → i < lo + x → KK κ (arrOf st') i = KK κ (arrOf st') (lo + x - 1))) ?step ?fin ⟨0, rfl, hB, hs, by assumption, fun i h1 h2 => by congr 1; exact ar63 h1 h2⟩
  case fin =>
    rintro c st' ⟨neq, rfl, hB', hs', hq, he⟩
    rw [show max n nrem = nrem by exact ar62 hnn] at hs' hq he ⊢
    exact h nrem neq st' hB' hnn (Nat.le_refl _) hs' hq he
  case step =>
    rintro x c st' hax hxn ⟨neq, rfl, hB', hs', hq, he⟩
    dsimp only
    have hsz : lo + x ≤ (arrOf st').size := by rw [hB'.size]; exact ar61 hn hxn
    refine wpS_bind (wpS_lt hO hB' h0 (by exact ar23 hn hxn) (by exact ar58 hn hxn) ?_)
    cases hless : κ.blt (KK κ (arrOf st') (lo + x)) (KK κ (arrOf st') (lo + x - 1))
    case true =>
      simp only [if_true]
      have step1 : ∀ xs : Array Keyed, (∀ k, KK κ xs k = KK κ (arrOf st') k) → Nin κ xs lo (x + 1) := by
        intro xs hk i j hij hj
        rw [hk, hk]
        by_cases hjx : j < x
        · exact hs' i j hij hjx
        · have hj' : j = x := by exact ar34 hj hjx
          subst hj'
          by_cases hi' : i = j
          · subst hi'; exact KeyOrd.kle_refl _
          · have := hs' i (j - 1) (by exact ar55 hij hi') (by exact ar54 hq)
            rw [show lo + (j - 1) = lo + j - 1 by exact ar53 hq] at this
            exact KeyOrd.kle_trans (KeyOrd.kle_of_klt hless) this
      by_cases hneq : neq > 0
      · rw [if_pos hneq]
        refine wpS_bind (wpS_reverse (wpS_pure ⟨0, rfl, hB'.setArr (mirror_perm _ _ _ _) (fun k hk => KK_mirror_equal hsz he k), step1 _ (KK_mirror_equal hsz he), by exact ar60, fun i h1 h2 => by congr 1; exact ar59 h1 h2⟩))
      · rw [if_neg hneq]
        exact wpS_pure ⟨0, rfl, hB', step1 _ (fun _ => rfl), by exact ar60, fun i h1 h2 => by congr 1; exact ar59 h1 h2⟩
    case false =>
      simp only [Bool.false_eq_true, if_false]
      refine wpS_bind (wpS_lt hO hB' h0 (by exact ar58 hn hxn) (by exact ar23 hn hxn) ?_)
      cases hlarger : κ.blt (KK κ (arrOf st') (lo + x - 1)) (KK κ (arrOf st') (lo + x))
      case true =>
        simp only [if_true]
        exact wpS_pure (h x neq st' hB' hax (by exact ar57 hxn) hs' hq he)
      case false =>
        simp only [Bool.false_eq_true, if_false]
        have heqx : KK κ (arrOf st') (lo + x) = KK κ (arrOf st') (lo + x - 1) := KeyOrd.kle_antisymm hlarger hless
        refine wpS_pure ⟨neq + 1, rfl, hB', fun i j hij hj => ?_, by exact ar56 hq, fun i h1 h2 => ?_⟩
        · by_cases hjx : j < x
          · exact hs' i j hij hjx
          · have hj' : j = x := by exact ar34 hj hjx
            subst hj'
            by_cases hi' : i = j
            · subst hi'; exact KeyOrd.kle_refl _
            · rw [heqx]
              have := hs' i (j - 1) (by exact ar55 hij hi') (by exact ar54 hq)
              rwa [show lo + (j - 1) = lo + j - 1 by exact ar53 hq] at this
        · rw [show lo + (x + 1) - 1 = lo + x by exact ar52]
          by_cases hix : i = lo + x
          · subst hix; rfl
          · rw [heqx]; exact he i (by exact ar51 h1) (by exact ar50 h2 hix)

theorem wpS_descP {st : SortSt} {n nrem : Nat} {Q : Option Nat → SortSt → Prop} (hO : κ.OneLt) (h0 : KeysOf κ b) (hn : lo + nrem ≤ b.size) (hnn : n + 1 ≤ nrem) (hB : SI κ b lo p st)
    (hs : Nin κ (arrOf st) lo (n + 1)) (h : ∀ m st', SI κ b lo p st' → 1 ≤ m → m ≤ nrem → Srt κ (arrOf st') lo m → Q (some m) st') :
    wpS (model prog w) A E s (descP lo n nrem) Q st := by
  unfold descP
  refine wpS_bind (wpS_lift (wpAny_rule ⟨rfl, ?_⟩))
  refine wpS_bind (wpS_descL hO h0 hn (by exact ar49) hnn hB hs fun m neq st' hB' hm1 hm2 hs' hq he => ?_)
  dsimp only
  have hsz : lo + m ≤ (arrOf st').size := by rw [hB'.size]; exact ar44 hn hm2
  by_cases hneq : neq > 0
  · rw [if_pos hneq]
    refine wpS_bind (wpS_reverse (wpS_tailL hO h0 hn (by exact ar48 hq) hm2 (hB'.setArr (mirror_perm _ _ _ _) fun k hk => KK_mirror_equal hsz he k) ?_ h))
    intro i j hij hj
    show κ.kle (KK κ (mirror (arrOf st') _ _ _) (lo + j)) (KK κ (mirror (arrOf st') _ _ _) (lo + i))
    rw [KK_mirror_equal hsz he, KK_mirror_equal hsz he]
    exact hs' i j hij hj
  · rw [if_neg hneq]
    exact wpS_tailL hO h0 hn (by exact ar48 hq) hm2 hB' hs' h

theorem wpS_countL {st : SortSt} {nrem : Nat} {Q : Option Nat → SortSt → Prop} (hO : κ.OneLt) (h0 : KeysOf κ b) (hn : lo + nrem ≤ b.size) (h1 : 1 ≤ nrem) (hB : SI κ b lo p st)
    (h : ∀ m st', SI κ b lo p st' → 1 ≤ m → m ≤ nrem → Srt κ (arrOf st') lo m → Q (some m) st') :
    wpS (model prog w) A E s (countRun' lo nrem) Q st := by
  rw [countL_eq]
  refine wpS_bind (wpS_ascL hO h0 hn (Nat.le_refl 1) h1 hB (fun i j hij hj => by have : i = j := (by exact ar47 hij hj); subst this; exact KeyOrd.kle_refl _) fun n hn1 hn2 hsn hor => ?_)
  dsimp only
  by_cases hnn : n = nrem
  · rw [if_pos (by simpa using hnn)]
    exact wpS_pure (h n st hB hn1 hn2 hsn)
  · rw [if_neg (by simpa using hnn)]
    have hlt : κ.klt (KK κ (arrOf st) (lo + n)) (KK κ (arrOf st) (lo + n - 1)) := hor.resolve_left hnn
    by_cases hgt : n > 1
    · rw [if_pos hgt]
      refine wpS_bind (wpS_lt hO hB h0 (by exact ar46 hn h1) (by exact ar45 hn hn2 hgt) ?_)
      cases hrose : κ.blt (KK κ (arrOf st) lo) (KK κ (arrOf st) (lo + n - 1))
      case true =>
        simp only [if_true]
        exact wpS_pure (h n st hB hn1 hn2 hsn)
      case false =>
        simp only [Bool.false_eq_true, if_false]
        have hsz : lo + n ≤ (arrOf st).size := by rw [hB.size]; exact ar44 hn hn2
        have hall : ∀ k, lo ≤ k → k < lo + n → KK κ (arrOf st) k = KK κ (arrOf st) (lo + n - 1) := by
          intro k hk0 hk
          have a1 := hsn 0 (k - lo) (by exact ar43) (by exact ar42 hk0 hk)
          have a2 := hsn (k - lo) (n - 1) (by exact ar41 hk) (by exact ar40 hk0 hk)
          rw [show lo + (k - lo) = k by exact ar39 hk0, Nat.add_zero] at a1
          rw [show lo + (k - lo) = k by exact ar39 hk0, show lo + (n - 1) = lo + n - 1 by exact ar38 hk0 hk] at a2
          exact KeyOrd.kle_antisymm a2 (KeyOrd.kle_trans hrose a1)
        refine wpS_bind (wpS_reverse (wpS_descP hO h0 hn (by exact ar37 hn2 hnn) (hB.setArr (mirror_perm _ _ _ _) fun k hk => KK_mirror_equal hsz hall k) ?_ h))
        intro i j hij hj
        show κ.kle (KK κ (mirror (arrOf st) _ _ _) (lo + j)) (KK κ (mirror (arrOf st) _ _ _) (lo + i))
        rw [KK_mirror_equal hsz hall, KK_mirror_equal hsz hall]
        by_cases hjn : j < n
        · rw [hall (lo + i) (by exact ar33) (by exact ar36 hij hjn), hall (lo + j) (by exact ar33) (by exact ar35 hjn)]; exact KeyOrd.kle_refl _
        · have hj' : j = n := by exact ar34 hj hjn
          subst hj'
          by_cases hi' : i = j
          · subst hi'; exact KeyOrd.kle_refl _
          · rw [hall (lo + i) (by exact ar33) (by exact ar32 hij hi')]; exact KeyOrd.kle_of_klt hlt
    · rw [if_neg hgt]
      have hn1' : n = 1 := by exact ar31 hn1 hgt
      subst hn1'
      refine wpS_descP hO h0 hn (by exact ar30 hn2 hnn) hB ?_ h
      intro i j hij hj
      by_cases hi' : i = j
      · subst hi'; exact KeyOrd.kle_refl _
      · have hi0 : i = 0 := by exact ar29 hij hj hi'
        have hj1 : j = 1 := by exact ar28 hj hi' hi0
        subst hi0; subst hj1
        exact KeyOrd.kle_of_klt hlt

theorem wpS_binL {st : SortSt} {n ok : Nat} {Q : Bool → SortSt → Prop} (hO : κ.OneLt) (h0 : KeysOf κ b) (hn : lo + n ≤ b.size) (hok : ok ≤ n) (hB : SI κ b lo p st) (hs : Srt κ (arrOf st) lo ok)
    (h : ∀ st', SI κ b lo p st' → Srt κ (arrOf st') lo n → Q true st') : wpS (model prog w) A E s (binarySort' lo n ok) Q st := by
  rw [binarySort'_eq]
  refine wpS_bind (wpS_mono (wpS_forRange (I := fun k c st' => c = (none, ()) ∧ SI κ b lo p st' ∧ Srt κ (arrOf st') lo (min k n))
    (Q := fun c st' => c = (none, ()) ∧ SI κ b lo p st' ∧ Srt κ (arrOf st') lo n) ?step ?fin ?init) ?post)
  case post =>
    rintro c st' ⟨rfl, hB', hs'⟩
    exact wpS_pure (h st' hB' hs')
  case init =>
    refine ⟨rfl, hB, fun i j hij hj => ?_⟩
    by_cases h1 : ok = 0
    · have : i = j := by exact ar27 hij hj h1
      subst this; exact KeyOrd.kle_refl _
    · exact hs i j hij (by exact ar26 hj h1)
  case fin =>
    rintro c st' ⟨hc, hB', hs'⟩
    refine ⟨hc, hB', ?_⟩
    rwa [show min (max (max ok 1) n) n = n by exact ar25] at hs'
  case step =>
    rintro k c st' hak hkn ⟨rfl, hB', hs'⟩
    rw [show min k n = k by exact ar24 hkn] at hs'
    have hk : lo + k < b.size := by exact ar23 hn hkn
    refine wpS_bind (wpS_mono (wpS_forRange (I := fun x c st'' => st'' = st' ∧ ∃ l r, c = (none, l, r) ∧ l ≤ r ∧ r ≤ k ∧ r - l ≤ k - x ∧
        (∀ i, i < l → κ.kle (KK κ (arrOf st') (lo + i)) (KK κ (arrOf st') (lo + k))) ∧ (∀ i, r ≤ i → i < k → κ.klt (KK κ (arrOf st') (lo + k)) (KK κ (arrOf st') (lo + i))))
      (Q := fun c st'' => st'' = st' ∧ ∃ l r, c = (none, l, r) ∧ l ≤ k ∧
        (∀ i, i < l → κ.kle (KK κ (arrOf st') (lo + i)) (KK κ (arrOf st') (lo + k))) ∧ (∀ i, l ≤ i → i < k → κ.klt (KK κ (arrOf st') (lo + k)) (KK κ (arrOf st') (lo + i)))) ?istep ?ifin ?iinit) ?ipost)
    case iinit => exact ⟨rfl, 0, k, rfl, by exact ar22, by exact ar21, by exact ar20, fun i hi => by exact (ar19 hi).elim, fun i h1 h2 => by exact (ar18 h1 h2).elim⟩
    case ifin =>
      rintro c st'' ⟨rfl, l, r, rfl, hlr, hrk, hm, hlo, hhi⟩
      have : l = r := by exact ar17 hlr hm
      subst this
      exact ⟨rfl, l, l, rfl, hrk, hlo, hhi⟩
    case istep =>
      rintro x c st'' _ hxk ⟨rfl, l, r, rfl, hlr, hrk, hm, hlo, hhi⟩
      dsimp only
      by_cases hge : l ≥ r
      · rw [if_pos hge]
        have : l = r := by exact ar16 hlr hge
        subst this
        exact wpS_pure ⟨rfl, l, l, rfl, hrk, hlo, hhi⟩
      · rw [if_neg hge]
        refine wpS_bind (wpS_lt hO hB' h0 hk (by exact ar15 hk hrk hge) ?_)
        cases hless : κ.blt (KK κ (arrOf st'') (lo + k)) (KK κ (arrOf st'') (lo + (l + r) / 2))
        case true =>
          simp only [if_true]
          refine wpS_pure ⟨rfl, l, (l + r) / 2, rfl, by exact ar14 hge, by exact ar13 hlr hrk, by exact ar12 hm, hlo, fun i h1 h2 => ?_⟩
          exact KeyOrd.klt_of_klt_of_kle hless (hs' _ _ h1 h2)
        case false =>
          simp only [Bool.false_eq_true, if_false]
          refine wpS_pure ⟨rfl, (l + r) / 2 + 1, r, rfl, by exact ar11 hge, by assumption, by exact ar10 hm, fun i h1 => ?_, hhi⟩
          exact KeyOrd.kle_trans (hs' i ((l + r) / 2) (by exact ar9 h1) (by exact ar8 hrk hge)) (show κ.kle _ _ from hless)
    case ipost =>
      rintro c st'' ⟨rfl, l, r, rfl, hlk, hlo, hhi⟩
      show wpS _ _ _ _ (do moveDown' (lo + k) (lo + l); pure (ForInStep.yield (none, ()))) _ _
      rw [moveDown'_eq]
      have hks : lo + k < (arrOf st'').size := by rw [hB'.size]; exact hk
      have hdl : lo + k - (lo + l) ≤ lo + k := Nat.sub_le ..
      have hls : lo + k - (lo + k - (lo + l)) = lo + l := Nat.sub_sub_self (Nat.add_le_add_left hlk lo)
      have E0 : ∀ q, q < lo + l → KK κ (bubble (arrOf st'') (lo + k) (lo + k - (lo + l))) q = KK κ (arrOf st'') q := fun q hq => by
        rw [KK_bubble hks hdl, hls, if_neg (Nat.ne_of_lt hq), if_neg (fun c => Nat.lt_asymm hq c.1)]
      have E2 : KK κ (bubble (arrOf st'') (lo + k) (lo + k - (lo + l))) (lo + l) = KK κ (arrOf st'') (lo + k) := by
        rw [KK_bubble hks hdl, hls, if_pos rfl]
      have E3 : ∀ q, l < q → q ≤ k → KK κ (bubble (arrOf st'') (lo + k) (lo + k - (lo + l))) (lo + q) = KK κ (arrOf st'') (lo + (q - 1)) := fun q h1 h2 => by
        rw [KK_bubble hks hdl, hls, if_neg (fun c => Nat.ne_of_gt h1 (Nat.add_left_cancel c)), if_pos ⟨Nat.add_lt_add_left h1 lo, Nat.add_le_add_left h2 lo⟩, Nat.add_sub_assoc (Nat.succ_le_of_lt (Nat.lt_of_le_of_lt (Nat.zero_le _) h1))]
      refine wpS_bind (wpS_modify (wpS_pure ⟨rfl, hB'.setArr (bubble_perm _ _ _) (fun q hq => E0 q (Nat.lt_of_lt_of_le hq (Nat.le_add_right ..))), ?_⟩))
      rw [Nat.min_eq_left (Nat.succ_le_of_lt hkn)]
      intro i j hij hj
      show κ.kle (KK κ (bubble (arrOf st'') (lo + k) (lo + k - (lo + l))) (lo + i)) (KK κ (bubble (arrOf st'') (lo + k) (lo + k - (lo + l))) (lo + j))
      have hjk : j ≤ k := Nat.le_of_lt_succ hj
      clear hdl hls hks hn hok hak hkn hk
      rcases Nat.lt_trichotomy i l with hi | rfl | hi
      · rw [E0 _ (Nat.add_lt_add_left hi lo)]
        rcases Nat.lt_trichotomy j l with hj' | rfl | hj'
        · rw [E0 _ (Nat.add_lt_add_left hj' lo)]; exact hs' i j hij (Nat.lt_of_lt_of_le hj' hlk)
        · rw [E2]; exact hlo i hi
        · rw [E3 j hj' hjk]; exact hs' i (j - 1) (Nat.le_sub_one_of_lt (Nat.lt_trans hi hj')) (Nat.lt_of_lt_of_le (Nat.sub_one_lt (Nat.ne_of_gt (Nat.lt_of_le_of_lt (Nat.zero_le _) hj'))) hjk)
      · rw [E2]
        rcases Nat.eq_or_lt_of_le hij with rfl | hj'
        · rw [E2]; exact KeyOrd.kle_refl _
        · rw [E3 j hj' hjk]; exact KeyOrd.kle_of_klt (hhi (j - 1) (Nat.le_sub_one_of_lt hj') (Nat.lt_of_lt_of_le (Nat.sub_one_lt (Nat.ne_of_gt (Nat.lt_of_le_of_lt (Nat.zero_le _) hj'))) hjk))
      · have hj' : l < j := Nat.lt_of_lt_of_le hi hij
        rw [E3 i hi (Nat.le_trans hij hjk), E3 j hj' hjk]
        exact hs' (i - 1) (j - 1) (Nat.sub_le_sub_right hij 1) (Nat.lt_of_lt_of_le (Nat.sub_one_lt (Nat.ne_of_gt (Nat.lt_of_le_of_lt (Nat.zero_le _) hj'))) hjk)
end
end Mine

set_option autoImplicit false
set_option backward.match.sparseCases true
set_option linter.unusedVariables false
namespace Mine
open PySem PyProof.Rows

noncomputable def gallop' : Bool → Keyed → Array Keyed → Nat → Nat → Nat → StateT SortSt Sem (Option Nat) := sortPriv% PySem.Builtin.gallop
noncomputable def beyond (left : Bool) (key : Keyed) (arr : Array Keyed) (base : Nat) (i : Nat) : StateT SortSt Sem (Option Bool) := do
    let x ← elem' arr (base + i)
    if left then lt' x key else return (← lt' key x).map (!·)
theorem gallop'_eq (left : Bool) (key : Keyed) (arr : Array Keyed) (base n hint : Nat) : gallop' left key arr base n hint = (do
  let mut lastofs := 0
  let mut ofs := 1
  let mut lo := 0
  let mut hi := 0
  let some right ← beyond left key arr base hint | return none
  if right then
    let maxofs := n - hint
    for _ in [0:n] do
      if ofs ≥ maxofs then break
      let some more ← beyond left key arr base (hint + ofs) | return none
      if !more then break
      lastofs := ofs
      ofs := 2 * ofs + 1
    lo := hint + lastofs + 1
    hi := hint + min ofs maxofs
  else
    let maxofs := hint + 1
    for _ in [0:n] do
      if ofs ≥ maxofs then break
      let some found ← beyond left key arr base (hint - ofs) | return none
      if found then break
      lastofs := ofs
      ofs := 2 * ofs + 1
    lo := hint + 1 - min ofs maxofs
    hi := hint - lastofs
  for _ in [0:n] do
    if lo ≥ hi then break
    let m := lo + (hi - lo) / 2
    let some more ← beyond left key arr base m | return none
    if more then lo := m + 1 else hi := m
  return some hi) := rfl

section
variable {prog : Program} {w : World} {A : Around} {E : Value → Shared → Prop} {s : Shared} {κ : PyProof.Rows.KeyKind}

noncomputable def binsL (left : Bool) (key : Keyed) (arr : Array Keyed) (base n lo hi : Nat) : StateT SortSt Sem (Option Nat) := do
  let __s ← forIn [0:n] ((none, lo, hi) : Option (Option Nat) × Nat × Nat) fun x __s =>
      if __s.snd.fst ≥ __s.snd.snd then pure (ForInStep.done (none, __s.snd.fst, __s.snd.snd))
      else do
        let __x ← beyond left key arr base (__s.snd.fst + (__s.snd.snd - __s.snd.fst) / 2)
        match __x with
          | some more =>
            if more = true then
              pure (ForInStep.yield (none, __s.snd.fst + (__s.snd.snd - __s.snd.fst) / 2 + 1, __s.snd.snd))
            else pure (ForInStep.yield (none, __s.snd.fst, __s.snd.fst + (__s.snd.snd - __s.snd.fst) / 2))
          | x => pure (ForInStep.done (some none, __s.snd.fst, __s.snd.snd))
  match __s.fst with
    | some r => pure r
    | none => pure (some __s.snd.snd)

theorem wpS_congr {α : Type} {m m' : StateT SortSt Sem α} {st : SortSt} {Q : α → SortSt → Prop} (e : m = m') (h : wpS (model prog w) A E s m' Q st) : wpS (model prog w) A E s m Q st := e ▸ h
theorem wpS_bins {left : Bool} {key : Keyed} {arr : Array Keyed} {base n lo hi : Nat} {st : SortSt} {Q : Option Nat → SortSt → Prop} (B : Nat → Bool)
    (hb : ∀ i, i < n → ∀ (R : Option Bool → SortSt → Prop), R (some (B i)) st → wpS (model prog w) A E s (beyond left key arr base i) R st)
    (hm : ∀ i j, i ≤ j → j < n → B j = true → B i = true)
    (h1 : lo ≤ hi) (h2 : hi ≤ n) (h3 : ∀ i, i < lo → B i = true) (h4 : ∀ i, hi ≤ i → i < n → B i = false)
    (h : ∀ k, k ≤ n → (∀ i, i < k → B i = true) → (∀ i, k ≤ i → i < n → B i = false) → Q (some k) st) :
    wpS (model prog w) A E s (binsL left key arr base n lo hi) Q st := by
  unfold binsL
  refine wpS_bind (wpS_mono (wpS_forRange (I := fun x c st' => st' = st ∧ ∃ l r, c = (none, l, r) ∧ l ≤ r ∧ r ≤ n ∧ r - l ≤ n - x ∧ (∀ i, i < l → B i = true) ∧ (∀ i, r ≤ i → i < n → B i = false))
    (Q := fun c st' => st' = st ∧ ∃ l r, c = (none, l, r) ∧ l = r ∧ r ≤ n ∧ (∀ i, i < l → B i = true) ∧ (∀ i, r ≤ i → i < n → B i = false)) ?step ?fin ⟨rfl, lo, hi, rfl, h1, h2, by exact ar104 h2, h3, h4⟩) ?post)
  case post =>
    rintro c st' ⟨rfl, l, r, rfl, rfl, a1, a2, a3⟩
    exact wpS_pure (h l a1 a2 a3)
  case fin =>
    rintro c st' ⟨rfl, l, r, rfl, a1, a2, a3, a4, a5⟩
    exact ⟨rfl, l, r, rfl, by exact ar17 a1 a3, a2, a4, a5⟩
  case step =>
    rintro x c st' _ hx ⟨rfl, l, r, rfl, a1, a2, a3, a4, a5⟩
    dsimp only
    by_cases hge : l ≥ r
    · rw [if_pos hge]
      exact wpS_pure ⟨rfl, l, r, rfl, by exact ar16 a1 hge, a2, a4, a5⟩
    · rw [if_neg hge]
      refine wpS_bind (hb _ (by exact ar97 a2 hge) _ ?_)
      dsimp only
      cases hB : B (l + (r - l) / 2)
      · simp only [Bool.false_eq_true, if_false]
        refine wpS_pure ⟨rfl, l, l + (r - l) / 2, rfl, by exact ar103, by exact ar102 a1 a2, by exact ar101 a3, a4, fun i h1 h2 => ?_⟩
        cases hq : B i with
        | false => rfl
        | true => rw [hm _ i h1 h2 hq] at hB; exact nomatch hB
      · simp only [if_true]
        exact wpS_pure ⟨rfl, l + (r - l) / 2 + 1, r, rfl, by exact ar100 hge, by assumption, by exact ar99 a3, fun i hi => hm i _ (by exact ar98 hi) (by exact ar97 a2 hge) hB, a5⟩

theorem wpS_gallop {left : Bool} {key : Keyed} {arr : Array Keyed} {base n hint : Nat} {st : SortSt} {Q : Option Nat → SortSt → Prop} (B : Nat → Bool)
    (hb : ∀ i, i < n → ∀ (R : Option Bool → SortSt → Prop), R (some (B i)) st → wpS (model prog w) A E s (beyond left key arr base i) R st)
    (hm : ∀ i j, i ≤ j → j < n → B j = true → B i = true) (hh : hint < n)
    (h : ∀ k, k ≤ n → (∀ i, i < k → B i = true) → (∀ i, k ≤ i → i < n → B i = false) → Q (some k) st) :
    wpS (model prog w) A E s (gallop' left key arr base n hint) Q st := by
  rw [gallop'_eq]
  dsimp only
  have fm : ∀ i j, i ≤ j → j < n → B i = false → B j = false := fun i j hij hj hi => by
    cases hq : B j with
    | false => rfl
    | true => rw [hm i j hij hj hq] at hi; exact nomatch hi
  refine wpS_bind (hb hint hh _ ?_)
  dsimp only
  cases hr : B hint
  case true =>
    simp only [if_true]
    refine wpS_bind (wpS_mono (wpS_forRange (I := fun x c st' => st' = st ∧ ∃ l o, c = (none, l, o) ∧ l < o ∧ l < n - hint ∧ x + 1 ≤ o ∧ B (hint + l) = true)
      (Q := fun c st' => st' = st ∧ ∃ l o, c = (none, l, o) ∧ l < o ∧ l < n - hint ∧ B (hint + l) = true ∧ (o < n - hint → B (hint + o) = false)) ?step ?fin ⟨rfl, 0, 1, rfl, by exact ar85, by exact ar96 hh, by exact ar84, hr⟩) ?post)
    case fin =>
      rintro c st' ⟨rfl, l, o, rfl, a1, a2, a3, a4⟩
      exact ⟨rfl, l, o, rfl, a1, a2, a4, fun q => by exact (ar95 a3 q).elim⟩
    case step =>
      rintro x c st' _ hx ⟨rfl, l, o, rfl, a1, a2, a3, a4⟩
      dsimp only
      by_cases hge : o ≥ n - hint
      · rw [if_pos hge]
        exact wpS_pure ⟨rfl, l, o, rfl, a1, a2, a4, fun q => by exact (ar94 hge q).elim⟩
      · rw [if_neg hge]
        refine wpS_bind (hb _ (by exact ar93 hge) _ ?_)
        dsimp only
        cases hB : B (hint + o)
        · simp only [Bool.not_false, if_true]
          exact wpS_pure ⟨rfl, l, o, rfl, a1, a2, a4, fun _ => hB⟩
        · simp only [Bool.not_true, Bool.false_eq_true, if_false]
          exact wpS_pure ⟨rfl, o, 2 * o + 1, rfl, by exact ar81, by exact ar92 hge, by exact ar79 a3, hB⟩
    case post =>
      rintro c st' ⟨rfl, l, o, rfl, a1, a2, a3, a4⟩
      dsimp only
      refine wpS_congr (m' := binsL left key arr base n (hint + l + 1) (hint + min o (n - hint))) (by unfold binsL; congr 1; funext __s; obtain ⟨r, l, o⟩ := __s; cases r <;> rfl) ?_
      refine wpS_bins B hb hm (lo := hint + l + 1) (hi := hint + min o (n - hint)) (by exact ar91 a1 a2) (by exact ar90 a2) (fun i hi => hm i (hint + l) (by exact ar89 hi) (by exact ar88 a2) a3) (fun i h1 h2 => ?_) h
      exact fm (hint + o) i (by exact ar87 h1 h2) h2 (a4 (by exact ar86 h1 h2))
  case false =>
    simp only [Bool.false_eq_true, if_false]
    refine wpS_bind (wpS_mono (wpS_forRange (I := fun x c st' => st' = st ∧ ∃ l o, c = (none, l, o) ∧ l < o ∧ l ≤ hint ∧ x + 1 ≤ o ∧ B (hint - l) = false)
      (Q := fun c st' => st' = st ∧ ∃ l o, c = (none, l, o) ∧ l < o ∧ l ≤ hint ∧ B (hint - l) = false ∧ (o ≤ hint → B (hint - o) = true)) ?step2 ?fin2 ⟨rfl, 0, 1, rfl, by exact ar85, by exact ar22, by exact ar84, hr⟩) ?post2)
    case fin2 =>
      rintro c st' ⟨rfl, l, o, rfl, a1, a2, a3, a4⟩
      exact ⟨rfl, l, o, rfl, a1, a2, a4, fun q => by exact (ar83 hh a3 q).elim⟩
    case step2 =>
      rintro x c st' _ hx ⟨rfl, l, o, rfl, a1, a2, a3, a4⟩
      dsimp only
      by_cases hge : o ≥ hint + 1
      · rw [if_pos hge]
        exact wpS_pure ⟨rfl, l, o, rfl, a1, a2, a4, fun q => by exact (ar82 hge q).elim⟩
      · rw [if_neg hge]
        refine wpS_bind (hb _ (by exact ar75 hh) _ ?_)
        dsimp only
        cases hB : B (hint - o)
        · simp only [Bool.false_eq_true, if_false]
          exact wpS_pure ⟨rfl, o, 2 * o + 1, rfl, by exact ar81, by exact ar80 hge, by exact ar79 a3, hB⟩
        · simp only [if_true]
          exact wpS_pure ⟨rfl, l, o, rfl, a1, a2, a4, fun _ => hB⟩
    case post2 =>
      rintro c st' ⟨rfl, l, o, rfl, a1, a2, a3, a4⟩
      dsimp only
      refine wpS_congr (m' := binsL left key arr base n (hint + 1 - min o (hint + 1)) (hint - l)) (by unfold binsL; congr 1; funext __s; obtain ⟨r, l, o⟩ := __s; cases r <;> rfl) ?_
      refine wpS_bins B hb hm (lo := hint + 1 - min o (hint + 1)) (hi := hint - l) (by exact ar78 a1) (by exact ar77 hh) (fun i hi => hm i (hint - o) (by exact ar76 hi) (by exact ar75 hh) (a4 (by exact ar74 hi))) (fun i h1 h2 => fm (hint - l) i h1 h2 a3) h
end
end Mine

set_option autoImplicit false
set_option backward.match.sparseCases true
set_option linter.unusedVariables false
namespace Mine
open PySem PyProof.Rows

section
variable {κ : PyProof.Rows.KeyKind}
noncomputable def leK (κ : PyProof.Rows.KeyKind) (x y : Keyed) : Prop := κ.kle (kyOf κ x) (kyOf κ y)
theorem leK.trans {x y z : Keyed} (h1 : leK κ x y) (h2 : leK κ y z) : leK κ x z := KeyOrd.kle_trans h1 h2
noncomputable def SL (κ : PyProof.Rows.KeyKind) (l : List Keyed) : Prop := l.Pairwise (leK κ)

/-- merging from the left -/
structure MLo (κ : PyProof.Rows.KeyKind) (a b : List Keyed) (out : Array Keyed) (ia ib : Nat) : Prop where
  srt : SL κ out.toList
  low : ∀ o ∈ out.toList, ∀ x, x ∈ a.drop ia ∨ x ∈ b.drop ib → leK κ o x
  perm : (out.toList ++ (a.drop ia ++ b.drop ib)).Perm (a ++ b)
  size : out.size = ia + ib
noncomputable def Good (κ : PyProof.Rows.KeyKind) (a b : List Keyed) (r : Array Keyed) : Prop := SL κ r.toList ∧ r.toList.Perm (a ++ b)

theorem ext_drop (a : Array Keyed) (i : Nat) : (a.extract i a.size).toList = a.toList.drop i := by
  rw [Array.toList_extract, List.extract_eq_take_drop]
  exact List.take_of_length_le (by rw [List.length_drop, Array.length_toList]; exact Nat.le_refl _)
theorem ext_take (a : Array Keyed) (i k : Nat) : (a.extract i (i + k)).toList = (a.toList.drop i).take k := by
  rw [Array.toList_extract, List.extract_eq_take_drop, Nat.add_sub_cancel_left]
theorem push_ext {a : Array Keyed} {i : Nat} {x : Keyed} (out : Array Keyed) (h : a[i]? = some x) : out.push x = out ++ a.extract i (i + 1) := by
  apply Array.ext'
  rw [Array.toList_push, Array.toList_append, ext_take]
  have : (a.toList.drop i).take 1 = [x] := by
    have h' : a.toList[i]? = some x := by rw [Array.getElem?_toList]; exact h
    obtain ⟨hi, rfl⟩ := List.getElem?_eq_some_iff.mp h'
    rw [List.drop_eq_getElem_cons hi]; rfl
  rw [this]
theorem drop_split (l : List Keyed) (i k : Nat) : (l.drop i).take k ++ l.drop (i + k) = l.drop i := by
  rw [← List.drop_drop]; exact List.take_append_drop k _
theorem SL.drop {l : List Keyed} (h : SL κ l) (i : Nat) : SL κ (l.drop i) := List.Pairwise.sublist (List.drop_sublist i l) h
theorem SL.parts {l : List Keyed} (h : SL κ l) (i k : Nat) : SL κ ((l.drop i).take k) ∧ ∀ x ∈ (l.drop i).take k, ∀ y ∈ l.drop (i + k), leK κ x y := by
  have h1 := h.drop i
  rw [← drop_split l i k] at h1
  obtain ⟨p1, p2, p3⟩ := List.pairwise_append.mp h1
  exact ⟨p1, p3⟩

variable {a b : Array Keyed} {out : Array Keyed} {ia ib k : Nat}
theorem MLo.takeA (h : MLo κ a.toList b.toList out ia ib) (ha : SL κ a.toList) (hk : ia + k ≤ a.size) (hx : ∀ x ∈ (a.toList.drop ia).take k, ∀ y ∈ b.toList.drop ib, leK κ x y) :
    MLo κ a.toList b.toList (out ++ a.extract ia (ia + k)) (ia + k) ib := by
  obtain ⟨p1, p2⟩ := ha.parts ia k
  have sub1 : ∀ x ∈ (a.toList.drop ia).take k, x ∈ a.toList.drop ia := fun x hx => List.mem_of_mem_take hx
  have sub2 : ∀ x ∈ a.toList.drop (ia + k), x ∈ a.toList.drop ia := fun x hx => by rw [← drop_split a.toList ia k]; exact List.mem_append_right _ hx
  refine ⟨?_, ?_, ?_, ?_⟩
  · rw [Array.toList_append, ext_take]
    exact List.pairwise_append.mpr ⟨h.srt, p1, fun x hx y hy => h.low x hx y (.inl (sub1 y hy))⟩
  · rw [Array.toList_append, ext_take]
    intro o ho x hx'
    rcases List.mem_append.mp ho with ho | ho
    · rcases hx' with q | q
      · exact h.low o ho x (.inl (sub2 x q))
      · exact h.low o ho x (.inr q)
    · rcases hx' with q | q
      · exact p2 o ho x q
      · exact hx o ho x q
  · rw [Array.toList_append, ext_take]
    have := h.perm
    rw [← drop_split a.toList ia k] at this
    simpa [List.append_assoc] using this
  · rw [Array.size_append, h.size, Array.size_extract]; exact ar106 hk
theorem MLo.takeB (h : MLo κ a.toList b.toList out ia ib) (hb : SL κ b.toList) (hk : ib + k ≤ b.size) (hx : ∀ x ∈ (b.toList.drop ib).take k, ∀ y ∈ a.toList.drop ia, leK κ x y) :
    MLo κ a.toList b.toList (out ++ b.extract ib (ib + k)) ia (ib + k) := by
  obtain ⟨p1, p2⟩ := hb.parts ib k
  have sub1 : ∀ x ∈ (b.toList.drop ib).take k, x ∈ b.toList.drop ib := fun x hx => List.mem_of_mem_take hx
  have sub2 : ∀ x ∈ b.toList.drop (ib + k), x ∈ b.toList.drop ib := fun x hx => by rw [← drop_split b.toList ib k]; exact List.mem_append_right _ hx
  refine ⟨?_, ?_, ?_, ?_⟩
  · rw [Array.toList_append, ext_take]
    exact List.pairwise_append.mpr ⟨h.srt, p1, fun x hx y hy => h.low x hx y (.inr (sub1 y hy))⟩
  · rw [Array.toList_append, ext_take]
    intro o ho x hx'
    rcases List.mem_append.mp ho with ho | ho
    · rcases hx' with q | q
      · exact h.low o ho x (.inl q)
      · exact h.low o ho x (.inr (sub2 x q))
    · rcases hx' with q | q
      · exact hx o ho x q
      · exact p2 o ho x q
  · rw [Array.toList_append, ext_take]
    refine List.Perm.trans ?_ h.perm
    have e := drop_split b.toList ib k
    generalize (b.toList.drop ib).take k = T at e ⊢
    generalize b.toList.drop (ib + k) = R at e ⊢
    rw [← e, List.append_assoc]
    refine List.Perm.append_left _ ?_
    rw [← List.append_assoc, ← List.append_assoc]
    exact List.Perm.append_right _ List.perm_append_comm
  · rw [Array.size_append, h.size, Array.size_extract]; exact ar105 hk
theorem MLo.done (h : MLo κ a.toList b.toList out ia ib) (ha : SL κ a.toList) (hb : SL κ b.toList) (he : ia = a.size ∨ ib = b.size) : Good κ a.toList b.toList (out ++ a.extract ia a.size ++ b.extract ib b.size) := by
  unfold Good
  rw [Array.toList_append, Array.toList_append, ext_drop, ext_drop, List.append_assoc]
  refine ⟨List.pairwise_append.mpr ⟨h.srt, ?_, fun x hx y hy => h.low x hx y (List.mem_append.mp hy)⟩, h.perm⟩
  rcases he with rfl | rfl
  · rw [List.drop_of_length_le (by simp), List.nil_append]; exact hb.drop ib
  · rw [List.drop_of_length_le (l := b.toList) (by simp), List.append_nil]; exact ha.drop ia
theorem MLo.last (h : MLo κ a.toList b.toList out ia ib) (ha : SL κ a.toList) (hb : SL κ b.toList) (hl : ∀ x ∈ a.toList.drop ia, ∀ y ∈ b.toList, leK κ y x) : Good κ a.toList b.toList (out ++ b.extract ib b.size ++ a.extract ia a.size) := by
  unfold Good
  rw [Array.toList_append, Array.toList_append, ext_drop, ext_drop, List.append_assoc]
  refine ⟨List.pairwise_append.mpr ⟨h.srt, List.pairwise_append.mpr ⟨hb.drop ib, ha.drop ia, fun y hy x hx => hl x hx y (List.mem_of_mem_drop hy)⟩, fun x hx y hy => h.low x hx y ((List.mem_append.mp hy).symm)⟩, ?_⟩
  exact List.Perm.trans (List.Perm.append_left _ List.perm_append_comm) h.perm
theorem SL.head_le {l : List Keyed} (h : SL κ l) {i : Nat} {x : Keyed} (hx : l[i]? = some x) : ∀ y ∈ l.drop i, leK κ x y := by
  obtain ⟨hi, rfl⟩ := List.getElem?_eq_some_iff.mp hx
  have h1 := h.drop i
  rw [List.drop_eq_getElem_cons hi] at h1 ⊢
  intro y hy
  rcases List.mem_cons.mp hy with rfl | hy
  · exact KeyOrd.kle_refl _
  · exact (List.pairwise_cons.mp h1).1 y hy
theorem take_one {l : List Keyed} {i : Nat} {x : Keyed} (hx : l[i]? = some x) : ∀ y ∈ (l.drop i).take 1, y = x := by
  obtain ⟨hi, rfl⟩ := List.getElem?_eq_some_iff.mp hx
  intro y hy
  rw [List.drop_eq_getElem_cons hi, List.take_succ_cons, List.take_zero] at hy
  exact List.mem_singleton.mp hy
theorem MLo.pushA (h : MLo κ a.toList b.toList out ia ib) (ha : SL κ a.toList) {x : Keyed} (hx : a[ia]? = some x) (hl : ∀ y ∈ b.toList.drop ib, leK κ x y) : MLo κ a.toList b.toList (out.push x) (ia + 1) ib := by
  rw [push_ext out hx]
  have hx' : a.toList[ia]? = some x := by rw [Array.getElem?_toList]; exact hx
  have := (List.getElem?_eq_some_iff.mp hx').1
  rw [Array.length_toList] at this
  exact h.takeA ha (by exact ar4 this) fun z hz y hy => take_one hx' z hz ▸ hl y hy
theorem MLo.pushB (h : MLo κ a.toList b.toList out ia ib) (hb : SL κ b.toList) {x : Keyed} (hx : b[ib]? = some x) (hl : ∀ y ∈ a.toList.drop ia, leK κ x y) : MLo κ a.toList b.toList (out.push x) ia (ib + 1) := by
  rw [push_ext out hx]
  have hx' : b.toList[ib]? = some x := by rw [Array.getElem?_toList]; exact hx
  have := (List.getElem?_eq_some_iff.mp hx').1
  rw [Array.length_toList] at this
  exact h.takeB hb (by exact ar4 this) fun z hz y hy => take_one hx' z hz ▸ hl y hy
end

noncomputable def mergeLo' : Array Keyed → Array Keyed → StateT SortSt Sem (Array Keyed) := sortPriv% PySem.Builtin.mergeLo
noncomputable def mergeHi' : Array Keyed → Array Keyed → StateT SortSt Sem (Array Keyed) := sortPriv% PySem.Builtin.mergeHi
noncomputable abbrev setGal (st : SortSt) (g : Nat) : SortSt := SortSt.mk' (kindOf st) (arrOf st) (pendingOf st) g (failedOf st)
theorem mergeLo'_eq (a b : Array Keyed) : mergeLo' a b = (do
  rule "list.sort.merge-lo"
  let total := a.size + b.size
  let done (out : Array Keyed) (ia ib : Nat) := out ++ a.extract ia a.size ++ b.extract ib b.size
  let lastOfA (out : Array Keyed) (ia ib : Nat) := out ++ b.extract ib b.size ++ a.extract ia a.size
  let mut out : Array Keyed := #[← elem' b 0]
  let mut ia := 0
  let mut ib := 1
  if ib == b.size then return done out ia ib
  if ia + 1 == a.size then return lastOfA out ia ib
  let mut minGallop := gallopOf (← get)
  for _ in [0:total] do
    let mut acount := 0
    let mut bcount := 0
    for _ in [0:total] do
      let some bWins ← lt' (← elem' b ib) (← elem' a ia) | return done out ia ib
      if bWins then
        out := out.push (← elem' b ib); ib := ib + 1; bcount := bcount + 1; acount := 0
        if ib == b.size then return done out ia ib
        if bcount ≥ minGallop then break
      else
        out := out.push (← elem' a ia); ia := ia + 1; acount := acount + 1; bcount := 0
        if ia + 1 == a.size then return lastOfA out ia ib
        if acount ≥ minGallop then break
    rule "list.sort.gallop"
    minGallop := minGallop + 1
    for _ in [0:total] do
      if minGallop > 1 then minGallop := minGallop - 1
      modify (fun st => setGal st minGallop)
      let some k ← gallop' false (← elem' b ib) a ia (a.size - ia) 0 | return done out ia ib
      acount := k
      if k > 0 then
        out := out ++ a.extract ia (ia + k); ia := ia + k
        if ia + 1 == a.size then return lastOfA out ia ib
        if ia == a.size then return done out ia ib
      out := out.push (← elem' b ib); ib := ib + 1
      if ib == b.size then return done out ia ib
      let some k ← gallop' true (← elem' a ia) b ib (b.size - ib) 0 | return done out ia ib
      bcount := k
      if k > 0 then
        out := out ++ b.extract ib (ib + k); ib := ib + k
        if ib == b.size then return done out ia ib
      out := out.push (← elem' a ia); ia := ia + 1
      if ia + 1 == a.size then return lastOfA out ia ib
      if acount < 7 && bcount < 7 then break
    minGallop := minGallop + 1
    modify (fun st => setGal st minGallop)
  unsupported "internal:list.sort.merge-bound") := rfl
end Mine

set_option autoImplicit false
set_option backward.match.sparseCases true
set_option linter.unusedVariables false
namespace Mine
open PySem PyProof.Rows
section
variable {prog : Program} {w : World} {A : Around} {E : Value → Shared → Prop} {s : Shared} {κ : PyProof.Rows.KeyKind}

/-- sorted from base on, n long -/
noncomputable abbrev SrtK (κ : PyProof.Rows.KeyKind) (xs : Array Keyed) (lo n : Nat) : Prop := Srt κ xs lo n
theorem get_some {xs : Array Keyed} {i : Nat} (h : i < xs.size) : ∃ x, xs[i]? = some x := ⟨xs[i], getElem?_pos _ i h⟩
theorem KeysOf.at {xs : Array Keyed} (h0 : KeysOf κ xs) {i : Nat} {x : Keyed} (h : xs[i]? = some x) : ∃ a, κ.keyOf x.1 = some a := h0 x (by
  have := Array.mem_of_getElem? h
  simpa using this)

theorem wpS_gallopR {key : Keyed} {arr : Array Keyed} {base n hint : Nat} {st : SortSt} {Q : Option Nat → SortSt → Prop} (hO : κ.OneLt) (hk : kindOf st = oneType') (h0 : KeysOf κ arr) (hkey : ∃ a, κ.keyOf key.1 = some a)
    (hn : base + n ≤ arr.size) (hs : Srt κ arr base n) (hh : hint < n)
    (h : ∀ k, k ≤ n → (∀ i, i < k → κ.kle (KK κ arr (base + i)) (kyOf κ key)) → (∀ i, k ≤ i → i < n → κ.klt (kyOf κ key) (KK κ arr (base + i))) → Q (some k) st) :
    wpS (model prog w) A E s (gallop' false key arr base n hint) Q st := by
  refine wpS_gallop (fun i => !κ.blt (kyOf κ key) (KK κ arr (base + i))) ?_ ?_ hh fun k h1 h2 h3 => h k h1 (fun i hi => by have := h2 i hi; simpa [KeyOrd.kle] using this) (fun i a1 a2 => by have := h3 i a1 a2; simpa [KeyOrd.klt] using this)
  · intro i hi R hR
    obtain ⟨x, hx⟩ := get_some (xs := arr) (i := base + i) (by exact ar23 hn hi)
    unfold beyond
    refine wpS_bind (wpS_elem hx ?_)
    simp only [Bool.false_eq_true, if_false]
    refine wpS_bind (wpS_ltP hO hk hkey (KeysOf.at h0 hx) (wpS_pure ?_))
    rw [KK_some hx] at hR
    exact hR
  · intro i j hij hj hB
    have h1 : κ.kle (KK κ arr (base + j)) (kyOf κ key) := by simpa [KeyOrd.kle] using hB
    have h2 := KeyOrd.kle_trans (hs i j hij hj) h1
    unfold KeyOrd.kle at h2
    simp [h2]
theorem wpS_gallopL {key : Keyed} {arr : Array Keyed} {base n hint : Nat} {st : SortSt} {Q : Option Nat → SortSt → Prop} (hO : κ.OneLt) (hk : kindOf st = oneType') (h0 : KeysOf κ arr) (hkey : ∃ a, κ.keyOf key.1 = some a)
    (hn : base + n ≤ arr.size) (hs : Srt κ arr base n) (hh : hint < n)
    (h : ∀ k, k ≤ n → (∀ i, i < k → κ.klt (KK κ arr (base + i)) (kyOf κ key)) → (∀ i, k ≤ i → i < n → κ.kle (kyOf κ key) (KK κ arr (base + i))) → Q (some k) st) :
    wpS (model prog w) A E s (gallop' true key arr base n hint) Q st := by
  refine wpS_gallop (fun i => κ.blt (KK κ arr (base + i)) (kyOf κ key)) ?_ ?_ hh fun k h1 h2 h3 => h k h1 h2 h3
  · intro i hi R hR
    obtain ⟨x, hx⟩ := get_some (xs := arr) (i := base + i) (by exact ar23 hn hi)
    unfold beyond
    refine wpS_bind (wpS_elem hx ?_)
    simp only [if_true]
    refine wpS_ltP hO hk (KeysOf.at h0 hx) hkey ?_
    rw [KK_some hx] at hR
    exact hR
  · intro i j hij hj hB
    exact KeyOrd.klt_of_kle_of_klt (hs i j hij hj) hB

theorem SL.kk {xs : Array Keyed} (h : SL κ xs.toList) {i j : Nat} (hij : i ≤ j) (hj : j < xs.size) : κ.kle (KK κ xs i) (KK κ xs j) := by
  obtain ⟨x, hx⟩ := get_some (xs := xs) (i := i) (by exact ar108 hij hj)
  obtain ⟨y, hy⟩ := get_some hj
  rw [KK_some hx, KK_some hy]
  refine h.head_le (i := i) (by rw [Array.getElem?_toList]; exact hx) y ?_
  have : (xs.toList.drop i)[j - i]? = some y := by rw [List.getElem?_drop, show i + (j - i) = j by exact ar39 hij, Array.getElem?_toList]; exact hy
  exact List.mem_of_getElem? this
theorem SL.srt {xs : Array Keyed} (h : SL κ xs.toList) {i n : Nat} (hn : i + n ≤ xs.size) : Srt κ xs i n := fun p q hpq hq => h.kk (by exact ar107 hpq) (by exact ar23 hn hq)
theorem mem_take {xs : Array Keyed} {i k : Nat} {x : Keyed} (h : x ∈ (xs.toList.drop i).take k) : ∃ j, j < k ∧ i + j < xs.size ∧ xs[i + j]? = some x := by
  obtain ⟨j, hj⟩ := List.getElem?_of_mem h
  rw [List.getElem?_take] at hj
  split at hj
  · rename_i hjk
    rw [List.getElem?_drop, Array.getElem?_toList] at hj
    exact ⟨j, hjk, (Array.getElem?_eq_some_iff.mp hj).1, hj⟩
  · exact nomatch hj
theorem mem_dropA {xs : Array Keyed} {i : Nat} {x : Keyed} (h : x ∈ xs.toList.drop i) : ∃ j, i ≤ j ∧ j < xs.size ∧ xs[j]? = some x := by
  obtain ⟨j, hj⟩ := List.getElem?_of_mem h
  rw [List.getElem?_drop, Array.getElem?_toList] at hj
  exact ⟨i + j, by exact ar33, (Array.getElem?_eq_some_iff.mp hj).1, hj⟩

/-! ### merging from the left, in pieces -/
noncomputable abbrev LoSt := Option (Array Keyed) × Array Keyed × Nat × Nat × Nat × Nat × Nat
noncomputable abbrev LoS1 := Option (Array Keyed) × Array Keyed × Nat × Nat × Nat × Nat
noncomputable abbrev LoS0 := Option (Array Keyed) × Array Keyed × Nat × Nat × Nat
noncomputable def loB3 (a b out : Array Keyed) (ia ib mg ac bc : Nat) : StateT SortSt Sem (ForInStep LoSt) := do
  let x ← elem' a ia
  if (ia + 1 + 1 == a.size) = true then pure (ForInStep.done (some (out.push x ++ b.extract ib b.size ++ a.extract (ia + 1) a.size), out.push x, ia + 1, ib, mg, ac, bc))
  else if (decide (ac < 7) && decide (bc < 7)) = true then pure (ForInStep.done (none, out.push x, ia + 1, ib, mg, ac, bc))
  else pure (ForInStep.yield (none, out.push x, ia + 1, ib, mg, ac, bc))
noncomputable def loB2 (a b out : Array Keyed) (ia ib mg ac bc : Nat) : StateT SortSt Sem (ForInStep LoSt) := do
  let x ← elem' b ib
  if (ib + 1 == b.size) = true then pure (ForInStep.done (some (out.push x ++ a.extract ia a.size ++ b.extract (ib + 1) b.size), out.push x, ia, ib + 1, mg, ac, bc))
  else do
    let y ← elem' a ia
    let __x ← gallop' true y b (ib + 1) (b.size - (ib + 1)) 0
    match __x with
    | some k =>
      if k > 0 then
        if (ib + 1 + k == b.size) = true then pure (ForInStep.done (some (out.push x ++ b.extract (ib + 1) (ib + 1 + k) ++ a.extract ia a.size ++ b.extract (ib + 1 + k) b.size), out.push x ++ b.extract (ib + 1) (ib + 1 + k), ia, ib + 1 + k, mg, ac, k))
        else loB3 a b (out.push x ++ b.extract (ib + 1) (ib + 1 + k)) ia (ib + 1 + k) mg ac k
      else loB3 a b (out.push x) ia (ib + 1) mg ac k
    | _ => pure (ForInStep.done (some (out.push x ++ a.extract ia a.size ++ b.extract (ib + 1) b.size), out.push x, ia, ib + 1, mg, ac, bc))
noncomputable def loB1 (a b out : Array Keyed) (ia ib mg ac bc : Nat) : StateT SortSt Sem (ForInStep LoSt) := do
  modify fun st => setGal st mg
  let x ← elem' b ib
  let __x ← gallop' false x a ia (a.size - ia) 0
  match __x with
  | some k =>
    if k > 0 then
      if (ia + k + 1 == a.size) = true then pure (ForInStep.done (some (out ++ a.extract ia (ia + k) ++ b.extract ib b.size ++ a.extract (ia + k) a.size), out ++ a.extract ia (ia + k), ia + k, ib, mg, k, bc))
      else if (ia + k == a.size) = true then pure (ForInStep.done (some (out ++ a.extract ia (ia + k) ++ a.extract (ia + k) a.size ++ b.extract ib b.size), out ++ a.extract ia (ia + k), ia + k, ib, mg, k, bc))
      else loB2 a b (out ++ a.extract ia (ia + k)) (ia + k) ib mg k bc
    else loB2 a b out ia ib mg k bc
  | _ => pure (ForInStep.done (some (out ++ a.extract ia a.size ++ b.extract ib b.size), out, ia, ib, mg, ac, bc))
noncomputable def loG (a b out : Array Keyed) (ia ib mg ac bc : Nat) : StateT SortSt Sem LoSt :=
  forIn [0:a.size + b.size] ((none, out, ia, ib, mg, ac, bc) : LoSt) fun x c =>
    if c.snd.snd.snd.snd.fst > 1 then loB1 a b c.snd.fst c.snd.snd.fst c.snd.snd.snd.fst (c.snd.snd.snd.snd.fst - 1) c.snd.snd.snd.snd.snd.fst c.snd.snd.snd.snd.snd.snd
    else loB1 a b c.snd.fst c.snd.snd.fst c.snd.snd.snd.fst c.snd.snd.snd.snd.fst c.snd.snd.snd.snd.snd.fst c.snd.snd.snd.snd.snd.snd
noncomputable def loA (a b out : Array Keyed) (ia ib mg : Nat) : StateT SortSt Sem LoS1 :=
  forIn [0:a.size + b.size] ((none, out, ia, ib, 0, 0) : LoS1) fun x c => do
    let y ← elem' b c.snd.snd.snd.fst
    let z ← elem' a c.snd.snd.fst
    let __x ← lt' y z
    match __x with
    | some bWins =>
      if bWins = true then do
        let q ← elem' b c.snd.snd.snd.fst
        if (c.snd.snd.snd.fst + 1 == b.size) = true then pure (ForInStep.done (some (c.snd.fst.push q ++ a.extract c.snd.snd.fst a.size ++ b.extract (c.snd.snd.snd.fst + 1) b.size), c.snd.fst.push q, c.snd.snd.fst, c.snd.snd.snd.fst + 1, 0, c.snd.snd.snd.snd.snd + 1))
        else if c.snd.snd.snd.snd.snd + 1 ≥ mg then pure (ForInStep.done (none, c.snd.fst.push q, c.snd.snd.fst, c.snd.snd.snd.fst + 1, 0, c.snd.snd.snd.snd.snd + 1))
        else pure (ForInStep.yield (none, c.snd.fst.push q, c.snd.snd.fst, c.snd.snd.snd.fst + 1, 0, c.snd.snd.snd.snd.snd + 1))
      else do
        let q ← elem' a c.snd.snd.fst
        if (c.snd.snd.fst + 1 + 1 == a.size) = true then pure (ForInStep.done (some (c.snd.fst.push q ++ b.extract c.snd.snd.snd.fst b.size ++ a.extract (c.snd.snd.fst + 1) a.size), c.snd.fst.push q, c.snd.snd.fst + 1, c.snd.snd.snd.fst, c.snd.snd.snd.snd.fst + 1, 0))
        else if c.snd.snd.snd.snd.fst + 1 ≥ mg then pure (ForInStep.done (none, c.snd.fst.push q, c.snd.snd.fst + 1, c.snd.snd.snd.fst, c.snd.snd.snd.snd.fst + 1, 0))
        else pure (ForInStep.yield (none, c.snd.fst.push q, c.snd.snd.fst + 1, c.snd.snd.snd.fst, c.snd.snd.snd.snd.fst + 1, 0))
    | _ => pure (ForInStep.done (some (c.snd.fst ++ a.extract c.snd.snd.fst a.size ++ b.extract c.snd.snd.snd.fst b.size), c.snd.fst, c.snd.snd.fst, c.snd.snd.snd.fst, c.snd.snd.snd.snd.fst, c.snd.snd.snd.snd.snd))
noncomputable def loAll (a b : Array Keyed) : StateT SortSt Sem (Array Keyed) := do
  liftM (rule "list.sort.merge-lo")
  let y ← elem' b 0
  if (1 == b.size) = true then pure (#[y] ++ a.extract 0 a.size ++ b.extract 1 b.size)
  else if (0 + 1 == a.size) = true then pure (#[y] ++ b.extract 1 b.size ++ a.extract 0 a.size)
  else do
    let g ← get
    let __s ← forIn [0:a.size + b.size] ((none, #[y], 0, 1, gallopOf g) : LoS0) fun x c => do
      let d ← loA a b c.snd.fst c.snd.snd.fst c.snd.snd.snd.fst c.snd.snd.snd.snd
      match d.fst with
      | some r => pure (ForInStep.done ((some r, d.snd.fst, d.snd.snd.fst, d.snd.snd.snd.fst, c.snd.snd.snd.snd) : LoS0))
      | none => do
        liftM (rule "list.sort.gallop")
        let e ← loG a b d.snd.fst d.snd.snd.fst d.snd.snd.snd.fst (c.snd.snd.snd.snd + 1) d.snd.snd.snd.snd.fst d.snd.snd.snd.snd.snd
        match e.fst with
        | some r => pure (ForInStep.done ((some r, e.snd.fst, e.snd.snd.fst, e.snd.snd.snd.fst, e.snd.snd.snd.snd.fst) : LoS0))
        | none => do
          modify fun st => setGal st (e.snd.snd.snd.snd.fst + 1)
          pure (ForInStep.yield ((none, e.snd.fst, e.snd.snd.fst, e.snd.snd.snd.fst, e.snd.snd.snd.snd.fst + 1) : LoS0))
    match __s.fst with
    | some r => pure r
    | none => unsupported "internal:list.sort.merge-bound"
set_option smartUnfolding false in
theorem loAll_eq (a b : Array Keyed) : mergeLo' a b = loAll a b := by
  rw [mergeLo'_eq]
  rfl
end
end Mine

set_option autoImplicit false
set_option backward.match.sparseCases true
set_option linter.unusedVariables false
namespace Mine
open PySem PyProof.Rows
section
variable {prog : Program} {w : World} {A : Around} {E : Value → Shared → Prop} {s : Shared} {κ : PyProof.Rows.KeyKind}

structure LoC (κ : PyProof.Rows.KeyKind) (a b : Array Keyed) : Prop where
  ka : KeysOf κ a
  kb : KeysOf κ b
  sa : SL κ a.toList
  sb : SL κ b.toList
  top : ∀ x, a[a.size - 1]? = some x → ∀ y ∈ b.toList, leK κ y x
structure SameS (st st' : SortSt) : Prop where
  kind : kindOf st' = oneType'
  arr : arrOf st' = arrOf st
  pend : pendingOf st' = pendingOf st
  failed : failedOf st' = failedOf st
theorem SameS.refl {st : SortSt} (h : kindOf st = oneType') : SameS st st := ⟨h, rfl, rfl, rfl⟩
theorem SameS.trans {st st1 st2 : SortSt} (h1 : SameS st st1) (h2 : SameS st1 st2) : SameS st st2 := ⟨h2.kind, h2.arr.trans h1.arr, h2.pend.trans h1.pend, h2.failed.trans h1.failed⟩
theorem SameS.gal {st st1 : SortSt} (h1 : SameS st st1) (g : Nat) : SameS st (setGal st1 g) := ⟨h1.kind, h1.arr, h1.pend, h1.failed⟩

structure LI (κ : PyProof.Rows.KeyKind) (a b out : Array Keyed) (ia ib n0 : Nat) : Prop where
  m : MLo κ a.toList b.toList out ia ib
  ha : ia + 1 < a.size
  hb : ib < b.size
  n : n0 ≤ ia + ib

variable {a b out : Array Keyed} {ia ib n0 mg ac bc : Nat} {st : SortSt}
theorem LoC.last (C : LoC κ a b) {ia : Nat} (h : ia + 1 = a.size) : ∀ x ∈ a.toList.drop ia, ∀ y ∈ b.toList, leK κ y x := by
  intro x hx y hy
  obtain ⟨j, h1, h2, h3⟩ := mem_dropA hx
  have : j = a.size - 1 := by exact ar142 h h1 h2
  subst this
  exact C.top x h3 y hy

/-- what a step of the galloping loop leaves -/
noncomputable def GOut (κ : PyProof.Rows.KeyKind) (a b : Array Keyed) (n0 : Nat) (c : LoSt) : Prop := match c.1 with
  | some r => Good κ a.toList b.toList r
  | none => LI κ a b c.2.1 c.2.2.1 c.2.2.2.1 n0
noncomputable def GStep (κ : PyProof.Rows.KeyKind) (a b : Array Keyed) (n0 : Nat) (st : SortSt) (r : ForInStep LoSt) (st' : SortSt) : Prop := SameS st st' ∧ match r with
  | .done c => GOut κ a b n0 c
  | .yield c => c.1 = none ∧ LI κ a b c.2.1 c.2.2.1 c.2.2.2.1 (n0 + 1)

theorem wpS_loB3 {st0 : SortSt} (C : LoC κ a b) (h : LI κ a b out ia ib n0) (hS : SameS st0 st) {x : Keyed} (hx : a[ia]? = some x) (hl : ∀ y ∈ b.toList.drop ib, leK κ x y) :
    wpS (model prog w) A E s (loB3 a b out ia ib mg ac bc) (GStep κ a b n0 st0) st := by
  have hh1 := h.ha; have hh2 := h.hb; have hh3 := h.n
  have M := h.m.pushA C.sa hx hl
  unfold loB3
  refine wpS_bind (wpS_elem hx ?_)
  by_cases h1 : ia + 1 + 1 = a.size
  · rw [if_pos (by simpa using h1)]
    exact wpS_pure ⟨hS, M.last C.sa C.sb (C.last h1)⟩
  · rw [if_neg (by simpa using h1)]
    split
    · exact wpS_pure ⟨hS, M, by dsimp only; exact ar114 hh1 h1, h.hb, by dsimp only; exact ar141 hh3⟩
    · exact wpS_pure ⟨hS, rfl, M, by dsimp only; exact ar114 hh1 h1, h.hb, by dsimp only; exact ar140 hh3⟩

theorem wpS_loB2 {st0 : SortSt} (hO : κ.OneLt) (C : LoC κ a b) (h : LI κ a b out ia ib n0) (hS : SameS st0 st) {x : Keyed} (hx : b[ib]? = some x) (hl : ∀ y ∈ a.toList.drop ia, leK κ x y) :
    wpS (model prog w) A E s (loB2 a b out ia ib mg ac bc) (GStep κ a b n0 st0) st := by
  have hh1 := h.ha; have hh2 := h.hb; have hh3 := h.n
  have M := h.m.pushB C.sb hx hl
  unfold loB2
  refine wpS_bind (wpS_elem hx ?_)
  by_cases h1 : ib + 1 = b.size
  · rw [if_pos (by simpa using h1)]
    exact wpS_pure ⟨hS, M.done C.sa C.sb (.inr h1)⟩
  · rw [if_neg (by simpa using h1)]
    obtain ⟨y, hy⟩ := get_some (xs := a) (i := ia) (by exact ar119 hh1)
    have hyl := C.sa.head_le (i := ia) (x := y) (by rw [Array.getElem?_toList]; exact hy)
    refine wpS_bind (wpS_elem hy ?_)
    refine wpS_bind (wpS_gallopL hO hS.kind C.kb (KeysOf.at C.ka hy) (by exact ar139 hh2) (C.sb.srt (by exact ar139 hh2)) (by exact ar138 hh2 h1) fun k hk h2 h3 => ?_)
    dsimp only
    have rest : ∀ z ∈ b.toList.drop (ib + 1 + k), leK κ y z := by
      intro z hz
      obtain ⟨j, j1, j2, j3⟩ := mem_dropA hz
      have := h3 (j - (ib + 1)) (by exact ar137 j1) (by exact ar136 j1 j2)
      rw [show ib + 1 + (j - (ib + 1)) = j by exact ar135 j1, KK_some j3] at this
      exact this
    by_cases hk0 : k > 0
    · rw [if_pos hk0]
      have M2 := M.takeB (k := k) C.sb (by exact ar134 hk hk0) (by
        intro z hz q hq
        obtain ⟨j, j1, j2, j3⟩ := mem_take hz
        have := h2 j j1
        rw [KK_some j3] at this
        exact leK.trans (KeyOrd.kle_of_klt this) (hyl q hq))
      by_cases h4 : ib + 1 + k = b.size
      · rw [if_pos (by simpa using h4)]
        exact wpS_pure ⟨hS, M2.done C.sa C.sb (.inr h4)⟩
      · rw [if_neg (by simpa using h4)]
        exact wpS_loB3 C ⟨M2, by assumption, by exact ar133 hk hk0 h4, by exact ar132 hh3⟩ hS hy rest
    · rw [if_neg hk0]
      have : k = 0 := by exact ar122 hk0
      subst this
      exact wpS_loB3 C ⟨M, by assumption, by exact ar117 hh2 h1, by exact ar131 hh3⟩ hS hy rest

theorem wpS_loB1 {st0 : SortSt} (hO : κ.OneLt) (C : LoC κ a b) (h : LI κ a b out ia ib n0) (hS : SameS st0 st) :
    wpS (model prog w) A E s (loB1 a b out ia ib mg ac bc) (GStep κ a b n0 st0) st := by
  have hh1 := h.ha; have hh2 := h.hb; have hh3 := h.n
  unfold loB1
  refine wpS_bind (wpS_modify ?_)
  have hS' := hS.gal mg
  obtain ⟨x, hx⟩ := get_some h.hb
  have hxl := C.sb.head_le (i := ib) (x := x) (by rw [Array.getElem?_toList]; exact hx)
  refine wpS_bind (wpS_elem hx ?_)
  refine wpS_bind (wpS_gallopR hO hS'.kind C.ka (KeysOf.at C.kb hx) (by exact ar130 hh1) (C.sa.srt (by exact ar130 hh1)) (by exact ar129 hh1) fun k hk h2 h3 => ?_)
  dsimp only
  have rest : ∀ z ∈ a.toList.drop (ia + k), leK κ x z := by
    intro z hz
    obtain ⟨j, j1, j2, j3⟩ := mem_dropA hz
    have := h3 (j - ia) (by exact ar128 j1) (by exact ar127 j1 j2)
    rw [show ia + (j - ia) = j by exact ar126 j1, KK_some j3] at this
    exact KeyOrd.kle_of_klt this
  by_cases hk0 : k > 0
  · rw [if_pos hk0]
    have M := h.m.takeA (k := k) C.sa (by exact ar125 hk hk0) (by
      intro z hz q hq
      obtain ⟨j, j1, j2, j3⟩ := mem_take hz
      have := h2 j j1
      rw [KK_some j3] at this
      exact leK.trans this (hxl q hq))
    by_cases h4 : ia + k + 1 = a.size
    · rw [if_pos (by simpa using h4)]
      exact wpS_pure ⟨hS', M.last C.sa C.sb (C.last h4)⟩
    · rw [if_neg (by simpa using h4)]
      by_cases h5 : ia + k = a.size
      · rw [if_pos (by simpa using h5)]
        exact wpS_pure ⟨hS', M.done C.sa C.sb (.inl h5)⟩
      · rw [if_neg (by simpa using h5)]
        exact wpS_loB2 hO C ⟨M, by exact ar124 hk hk0 h4 h5, by assumption, by exact ar123 hh3⟩ hS' hx rest
  · rw [if_neg hk0]
    have : k = 0 := by exact ar122 hk0
    subst this
    exact wpS_loB2 hO C h hS' hx rest

theorem wpS_loG {st0 : SortSt} {Q : LoSt → SortSt → Prop} (hO : κ.OneLt) (C : LoC κ a b) (h : LI κ a b out ia ib n0) (hS : SameS st0 st)
    (hq : ∀ c st', SameS st0 st' → GOut κ a b n0 c → Q c st') : wpS (model prog w) A E s (loG a b out ia ib mg ac bc) Q st := by
  unfold loG
  refine wpS_mono (wpS_forRange (I := fun x c st' => SameS st0 st' ∧ c.1 = none ∧ LI κ a b c.2.1 c.2.2.1 c.2.2.2.1 (n0 + x)) (Q := fun c st' => SameS st0 st' ∧ GOut κ a b n0 c) ?step ?fin ⟨hS, rfl, h⟩) fun c st' hc => hq c st' hc.1 hc.2
  case fin =>
    rintro c st' ⟨h1, h2, h3⟩
    have := h3.ha; have := h3.hb; have := h3.n
    exact (ar120 (by assumption) (by assumption) this).elim
  case step =>
    rintro x ⟨r, o, i, j, g, p, q⟩ st' _ hx ⟨h1, rfl, h3⟩
    dsimp only at h3 ⊢
    have fin : ∀ (rr : ForInStep LoSt) (st2 : SortSt), GStep κ a b (n0 + x) st0 rr st2 → (match rr with | .done c' => SameS st0 st2 ∧ GOut κ a b n0 c' | .yield c' => SameS st0 st2 ∧ c'.1 = none ∧ LI κ a b c'.2.1 c'.2.2.1 c'.2.2.2.1 (n0 + (x + 1))) := by
      rintro rr st2 ⟨g1, g2⟩
      cases rr with
      | done c =>
        refine ⟨g1, ?_⟩
        unfold GOut at g2 ⊢
        obtain ⟨r, o⟩ := c
        cases r with
        | some r => exact g2
        | none => exact ⟨g2.m, g2.ha, g2.hb, by have := g2.n; exact ar121 this⟩
      | yield c => exact ⟨g1, g2⟩
    split
    · exact wpS_mono (wpS_loB1 hO C h3 h1) fun rr st2 hh => by have := fin rr st2 hh; cases rr <;> exact this
    · exact wpS_mono (wpS_loB1 hO C h3 h1) fun rr st2 hh => by have := fin rr st2 hh; cases rr <;> exact this

noncomputable def AOut (κ : PyProof.Rows.KeyKind) (a b : Array Keyed) (n0 : Nat) (c : LoS1) : Prop := match c.1 with
  | some r => Good κ a.toList b.toList r
  | none => LI κ a b c.2.1 c.2.2.1 c.2.2.2.1 (n0 + 1)
theorem wpS_loA {Q : LoS1 → SortSt → Prop} (hO : κ.OneLt) (C : LoC κ a b) (h : LI κ a b out ia ib n0) (hk : kindOf st = oneType')
    (hq : ∀ c, AOut κ a b n0 c → Q c st) : wpS (model prog w) A E s (loA a b out ia ib mg) Q st := by
  unfold loA
  refine wpS_mono (wpS_forRange (I := fun x c st' => st' = st ∧ c.1 = none ∧ LI κ a b c.2.1 c.2.2.1 c.2.2.2.1 (n0 + x)) (Q := fun c st' => st' = st ∧ AOut κ a b n0 c) ?step ?fin ⟨rfl, rfl, h⟩) fun c st' hc => by obtain ⟨rfl, hc⟩ := hc; exact hq c hc
  case fin =>
    rintro c st' ⟨h1, h2, h3⟩
    have := h3.ha; have := h3.hb; have := h3.n
    exact (ar120 (by assumption) (by assumption) this).elim
  case step =>
    rintro x ⟨r, o, i, j, p, q⟩ st' _ hx ⟨hst, hr, h3⟩
    have hst := hst.symm
    subst hst
    dsimp only at hr
    subst hr
    dsimp only at h3 ⊢
    have hh1 := h3.ha; have hh2 := h3.hb; have hh3 := h3.n
    obtain ⟨y, hy⟩ := get_some h3.hb
    obtain ⟨z, hz⟩ := get_some (xs := a) (i := i) (by exact ar119 hh1)
    have hyl := C.sb.head_le (i := j) (x := y) (by rw [Array.getElem?_toList]; exact hy)
    have hzl := C.sa.head_le (i := i) (x := z) (by rw [Array.getElem?_toList]; exact hz)
    refine wpS_bind (wpS_elem hy (wpS_bind (wpS_elem hz ?_)))
    refine wpS_bind (wpS_ltP hO hk (KeysOf.at C.kb hy) (KeysOf.at C.ka hz) ?_)
    dsimp only
    cases hw : κ.blt (kyOf κ y) (kyOf κ z)
    case true =>
      simp only [if_true]
      refine wpS_bind (wpS_elem hy ?_)
      have M := h3.m.pushB C.sb hy fun q hq => leK.trans (KeyOrd.kle_of_klt hw) (hzl q hq)
      by_cases e1 : j + 1 = b.size
      · rw [if_pos (by simpa using e1)]
        exact wpS_pure ⟨rfl, M.done C.sa C.sb (.inr e1)⟩
      · rw [if_neg (by simpa using e1)]
        split
        · exact wpS_pure ⟨rfl, M, hh1, by dsimp only; exact ar117 hh2 e1, by dsimp only; exact ar118 hh3⟩
        · exact wpS_pure ⟨rfl, rfl, M, hh1, by dsimp only; exact ar117 hh2 e1, by dsimp only; exact ar116 hh3⟩
    case false =>
      simp only [Bool.false_eq_true, if_false]
      refine wpS_bind (wpS_elem hz ?_)
      have M := h3.m.pushA C.sa hz fun q hq => leK.trans (show leK κ z y from hw) (hyl q hq)
      by_cases e1 : i + 1 + 1 = a.size
      · rw [if_pos (by simpa using e1)]
        exact wpS_pure ⟨rfl, M.last C.sa C.sb (C.last e1)⟩
      · rw [if_neg (by simpa using e1)]
        split
        · exact wpS_pure ⟨rfl, M, by dsimp only; exact ar114 hh1 e1, hh2, by dsimp only; exact ar115 hh3⟩
        · exact wpS_pure ⟨rfl, rfl, M, by dsimp only; exact ar114 hh1 e1, hh2, by dsimp only; exact ar113 hh3⟩

theorem wpS_mergeLo {Q : Array Keyed → SortSt → Prop} (hO : κ.OneLt) (C : LoC κ a b) (ha : 1 ≤ a.size) (hb : 1 ≤ b.size) (h0 : κ.kle (KK κ b 0) (KK κ a 0)) (hk : kindOf st = oneType')
    (hq : ∀ r st', SameS st st' → Good κ a.toList b.toList r → Q r st') : wpS (model prog w) A E s (mergeLo' a b) Q st := by
  rw [loAll_eq]
  unfold loAll
  refine wpS_bind (wpS_lift (wpAny_rule ⟨rfl, ?_⟩))
  obtain ⟨y, hy⟩ := get_some hb
  refine wpS_bind (wpS_elem hy ?_)
  have hy0 : ∀ z ∈ a.toList.drop 0, leK κ y z := by
    intro z hz
    obtain ⟨j, j1, j2, j3⟩ := mem_dropA hz
    have := KeyOrd.kle_trans h0 (C.sa.kk (Nat.zero_le j) j2)
    rw [KK_some hy, KK_some j3] at this
    exact this
  have M0 : MLo κ a.toList b.toList #[] 0 0 := ⟨.nil, by simp, by simp, by simp⟩
  have M := M0.pushB C.sb hy hy0
  rw [show (#[] : Array Keyed).push y = #[y] from rfl] at M
  by_cases e1 : 1 = b.size
  · rw [if_pos (by simpa using e1)]
    exact wpS_pure (hq _ _ (.refl hk) (M.done C.sa C.sb (.inr e1)))
  · rw [if_neg (by simpa using e1)]
    by_cases e2 : 0 + 1 = a.size
    · rw [if_pos (by simpa using e2)]
      exact wpS_pure (hq _ _ (.refl hk) (M.last C.sa C.sb (C.last e2)))
    · rw [if_neg (by simpa using e2)]
      refine wpS_bind (wpS_get ?_)
      refine wpS_bind (wpS_mono (wpS_forRange (I := fun x c st' => SameS st st' ∧ c.1 = none ∧ LI κ a b c.2.1 c.2.2.1 c.2.2.2.1 (x + 1)) (Q := fun c st' => SameS st st' ∧ ∃ r, c.1 = some r ∧ Good κ a.toList b.toList r) ?step ?fin ⟨.refl hk, rfl, M, by dsimp only; exact ar112 ha e2, by dsimp only; exact ar111 hb e1, by dsimp only; exact ar110⟩) ?post)
      case post =>
        rintro ⟨r, c⟩ st' ⟨h1, r', rfl, h2⟩
        exact wpS_pure (hq _ _ h1 h2)
      case fin =>
        rintro c st' ⟨h1, h2, h3⟩
        have := h3.ha; have := h3.hb; have := h3.n
        exact (ar109 (by assumption) (by assumption) this).elim
      case step =>
        rintro x ⟨r, o, i, j, g⟩ st' _ hx ⟨h1, rfl, h3⟩
        dsimp only at h3 ⊢
        refine wpS_bind (wpS_loA hO C h3 h1.kind fun d hd => ?_)
        obtain ⟨dr, d⟩ := d
        cases dr with
        | some r => exact wpS_pure ⟨h1, r, rfl, hd⟩
        | none =>
          dsimp only
          refine wpS_bind (wpS_lift (wpAny_rule ⟨rfl, ?_⟩))
          refine wpS_bind (wpS_loG hO C hd h1 fun e st2 h4 h5 => ?_)
          obtain ⟨er, e⟩ := e
          cases er with
          | some r => exact wpS_pure ⟨h4, r, rfl, h5⟩
          | none =>
            dsimp only
            exact wpS_bind (wpS_modify (wpS_pure ⟨h4.gal _, rfl, h5⟩))
end
end Mine

set_option autoImplicit false
set_option backward.match.sparseCases true
set_option linter.unusedVariables false
namespace Mine
open PySem PyProof.Rows
section
variable {κ : PyProof.Rows.KeyKind}
/-- merging from the right -/
structure MHi (κ : PyProof.Rows.KeyKind) (a b : List Keyed) (na nb : Nat) (out : Array Keyed) : Prop where
  srt : out.toList.Pairwise fun x y => leK κ y x
  hi : ∀ o ∈ out.toList, ∀ x, x ∈ a.take na ∨ x ∈ b.take nb → leK κ x o
  perm : ((a.take na ++ b.take nb) ++ out.toList).Perm (a ++ b)
  size : out.size + na + nb = a.length + b.length

theorem ext0 (a : Array Keyed) (k : Nat) : (a.extract 0 k).toList = a.toList.take k := by
  rw [Array.toList_extract, List.extract_eq_take_drop]; simp
theorem ext_mid (a : Array Keyed) (i k : Nat) : (a.extract i k).toList = (a.toList.take k).drop i := by
  rw [Array.toList_extract, List.extract_eq_take_drop, List.drop_take]
theorem take_split (l : List Keyed) {i k : Nat} (h : i ≤ k) : l.take i ++ (l.take k).drop i = l.take k := by
  have : l.take i = (l.take k).take i := by rw [List.take_take]; congr 1; exact ar147 h
  rw [this]; exact List.take_append_drop i _
theorem SL.take {l : List Keyed} (h : SL κ l) (i : Nat) : SL κ (l.take i) := List.Pairwise.sublist (List.take_sublist i l) h
theorem SL.partsH {l : List Keyed} (h : SL κ l) {i k : Nat} (hik : i ≤ k) : SL κ ((l.take k).drop i) ∧ ∀ x ∈ l.take i, ∀ y ∈ (l.take k).drop i, leK κ x y := by
  have h1 := h.take k
  rw [← take_split l hik] at h1
  obtain ⟨p1, p2, p3⟩ := List.pairwise_append.mp h1
  exact ⟨p2, p3⟩

variable {a b : Array Keyed} {out : Array Keyed} {na nb k : Nat}
theorem MHi.takeA (h : MHi κ a.toList b.toList na nb out) (ha : SL κ a.toList) (hna : na ≤ a.size) (hk : k ≤ na) (hx : ∀ x ∈ (a.toList.take na).drop k, ∀ y ∈ b.toList.take nb, leK κ y x) :
    MHi κ a.toList b.toList k nb (out ++ (a.extract k na).reverse) := by
  obtain ⟨p1, p2⟩ := ha.partsH hk
  have sub1 : ∀ x ∈ (a.toList.take na).drop k, x ∈ a.toList.take na := fun x hx => List.mem_of_mem_drop hx
  have sub2 : ∀ x ∈ a.toList.take k, x ∈ a.toList.take na := fun x hx => by rw [← take_split a.toList hk]; exact List.mem_append_left _ hx
  have e : (out ++ (a.extract k na).reverse).toList = out.toList ++ ((a.toList.take na).drop k).reverse := by
    rw [Array.toList_append, Array.toList_reverse, ext_mid]
  refine ⟨?_, ?_, ?_, ?_⟩
  · rw [e]
    refine List.pairwise_append.mpr ⟨h.srt, List.pairwise_reverse.mpr p1, fun x hx y hy => h.hi x hx y (.inl (sub1 y (List.mem_reverse.mp hy)))⟩
  · rw [e]
    intro o ho x hx'
    rcases List.mem_append.mp ho with ho | ho
    · rcases hx' with q | q
      · exact h.hi o ho x (.inl (sub2 x q))
      · exact h.hi o ho x (.inr q)
    · rcases hx' with q | q
      · exact p2 x q o (List.mem_reverse.mp ho)
      · exact hx o (List.mem_reverse.mp ho) x q
  · rw [e]
    refine List.Perm.trans ?_ h.perm
    have e2 := take_split a.toList hk
    generalize (a.toList.take na).drop k = T at e2 ⊢
    generalize a.toList.take k = S at e2 ⊢
    rw [← e2]
    have r := List.reverse_perm T
    calc ((S ++ b.toList.take nb) ++ (out.toList ++ T.reverse)).Perm ((S ++ b.toList.take nb) ++ (out.toList ++ T)) := List.Perm.append_left _ (List.Perm.append_left _ r)
      _ |>.Perm ((S ++ T ++ b.toList.take nb) ++ out.toList) := by
        rw [List.append_assoc, List.append_assoc, List.append_assoc]
        refine List.Perm.append_left _ ?_
        rw [← List.append_assoc]
        exact List.perm_append_comm
  · rw [Array.size_append, Array.size_reverse, Array.size_extract]
    have := h.size
    exact ar146 hna hk this
theorem MHi.takeB (h : MHi κ a.toList b.toList na nb out) (hb : SL κ b.toList) (hnb : nb ≤ b.size) (hk : k ≤ nb) (hx : ∀ x ∈ (b.toList.take nb).drop k, ∀ y ∈ a.toList.take na, leK κ y x) :
    MHi κ a.toList b.toList na k (out ++ (b.extract k nb).reverse) := by
  obtain ⟨p1, p2⟩ := hb.partsH hk
  have sub1 : ∀ x ∈ (b.toList.take nb).drop k, x ∈ b.toList.take nb := fun x hx => List.mem_of_mem_drop hx
  have sub2 : ∀ x ∈ b.toList.take k, x ∈ b.toList.take nb := fun x hx => by rw [← take_split b.toList hk]; exact List.mem_append_left _ hx
  have e : (out ++ (b.extract k nb).reverse).toList = out.toList ++ ((b.toList.take nb).drop k).reverse := by
    rw [Array.toList_append, Array.toList_reverse, ext_mid]
  refine ⟨?_, ?_, ?_, ?_⟩
  · rw [e]
    refine List.pairwise_append.mpr ⟨h.srt, List.pairwise_reverse.mpr p1, fun x hx y hy => h.hi x hx y (.inr (sub1 y (List.mem_reverse.mp hy)))⟩
  · rw [e]
    intro o ho x hx'
    rcases List.mem_append.mp ho with ho | ho
    · rcases hx' with q | q
      · exact h.hi o ho x (.inl q)
      · exact h.hi o ho x (.inr (sub2 x q))
    · rcases hx' with q | q
      · exact hx o (List.mem_reverse.mp ho) x q
      · exact p2 x q o (List.mem_reverse.mp ho)
  · rw [e]
    refine List.Perm.trans ?_ h.perm
    have e2 := take_split b.toList hk
    generalize (b.toList.take nb).drop k = T at e2 ⊢
    generalize b.toList.take k = S at e2 ⊢
    rw [← e2]
    have r := List.reverse_perm T
    refine (List.Perm.append_left _ (List.Perm.append_left _ r)).trans ?_
    rw [List.append_assoc, List.append_assoc, List.append_assoc]
    refine List.Perm.append_left _ (List.Perm.append_left _ ?_)
    exact List.perm_append_comm
  · rw [Array.size_append, Array.size_reverse, Array.size_extract]
    have := h.size
    exact ar145 hnb hk this
theorem MHi.done (h : MHi κ a.toList b.toList na nb out) (ha : SL κ a.toList) (hb : SL κ b.toList) (he : na = 0 ∨ nb = 0) : Good κ a.toList b.toList (a.extract 0 na ++ b.extract 0 nb ++ out.reverse) := by
  unfold Good
  rw [Array.toList_append, Array.toList_append, ext0, ext0, Array.toList_reverse]
  refine ⟨List.pairwise_append.mpr ⟨?_, List.pairwise_reverse.mpr h.srt, fun x hx y hy => h.hi y (List.mem_reverse.mp hy) x (List.mem_append.mp hx)⟩, (List.Perm.append_left _ (List.reverse_perm _)).trans h.perm⟩
  rcases he with rfl | rfl
  · rw [List.take_zero, List.nil_append]; exact hb.take nb
  · rw [List.take_zero, List.append_nil]; exact ha.take na
theorem MHi.first (h : MHi κ a.toList b.toList na nb out) (ha : SL κ a.toList) (hb : SL κ b.toList) (hl : ∀ y ∈ b.toList.take nb, ∀ x ∈ a.toList, leK κ y x) : Good κ a.toList b.toList (b.extract 0 nb ++ a.extract 0 na ++ out.reverse) := by
  unfold Good
  rw [Array.toList_append, Array.toList_append, ext0, ext0, Array.toList_reverse]
  refine ⟨List.pairwise_append.mpr ⟨List.pairwise_append.mpr ⟨hb.take nb, ha.take na, fun y hy x hx => hl y hy x (List.mem_of_mem_take hx)⟩, List.pairwise_reverse.mpr h.srt, fun x hx y hy => h.hi y (List.mem_reverse.mp hy) x ((List.mem_append.mp hx).symm)⟩, ?_⟩
  exact ((List.Perm.append_left _ (List.reverse_perm _)).trans (List.Perm.append_right _ List.perm_append_comm)).trans h.perm
theorem push_rev {a : Array Keyed} {i : Nat} {x : Keyed} (out : Array Keyed) (h : a[i]? = some x) : out.push x = out ++ (a.extract i (i + 1)).reverse := by
  rw [push_ext out h]
  congr 1
  apply Array.ext'
  rw [Array.toList_reverse, ext_take]
  have h' : a.toList[i]? = some x := by rw [Array.getElem?_toList]; exact h
  obtain ⟨hi, rfl⟩ := List.getElem?_eq_some_iff.mp h'
  rw [List.drop_eq_getElem_cons hi]; rfl
theorem mem_mid {xs : Array Keyed} {i k : Nat} {x : Keyed} (h : x ∈ (xs.toList.take k).drop i) : ∃ j, i ≤ j ∧ j < k ∧ j < xs.size ∧ xs[j]? = some x := by
  obtain ⟨j, hj⟩ := List.getElem?_of_mem h
  rw [List.getElem?_drop, List.getElem?_take] at hj
  split at hj
  · rename_i hjk
    rw [Array.getElem?_toList] at hj
    exact ⟨i + j, by exact ar33, hjk, (Array.getElem?_eq_some_iff.mp hj).1, hj⟩
  · exact nomatch hj
theorem mem_takeA {xs : Array Keyed} {k : Nat} {x : Keyed} (h : x ∈ xs.toList.take k) : ∃ j, j < k ∧ j < xs.size ∧ xs[j]? = some x := by
  obtain ⟨j, _, h1, h2, h3⟩ := mem_mid (i := 0) (by simpa using h)
  exact ⟨j, h1, h2, h3⟩
theorem MHi.pushA (h : MHi κ a.toList b.toList (na + 1) nb out) (ha : SL κ a.toList) {x : Keyed} (hx : a[na]? = some x) (hl : ∀ y ∈ b.toList.take nb, leK κ y x) : MHi κ a.toList b.toList na nb (out.push x) := by
  rw [push_rev out hx]
  have := (Array.getElem?_eq_some_iff.mp hx).1
  refine h.takeA ha (by exact ar4 this) (by exact ar144) fun z hz y hy => ?_
  obtain ⟨j, j1, j2, j3, j4⟩ := mem_mid hz
  have : j = na := by exact ar143 j1 j2
  subst this
  rw [hx] at j4; cases j4
  exact hl y hy
theorem MHi.pushB (h : MHi κ a.toList b.toList na (nb + 1) out) (hb : SL κ b.toList) {x : Keyed} (hx : b[nb]? = some x) (hl : ∀ y ∈ a.toList.take na, leK κ y x) : MHi κ a.toList b.toList na nb (out.push x) := by
  rw [push_rev out hx]
  have := (Array.getElem?_eq_some_iff.mp hx).1
  refine h.takeB hb (by exact ar4 this) (by exact ar144) fun z hz y hy => ?_
  obtain ⟨j, j1, j2, j3, j4⟩ := mem_mid hz
  have : j = nb := by exact ar143 j1 j2
  subst this
  rw [hx] at j4; cases j4
  exact hl y hy
end

theorem mergeHi'_eq (a b : Array Keyed) : mergeHi' a b = (do
  rule "list.sort.merge-hi"
  let total := a.size + b.size
  let done (out : Array Keyed) (na nb : Nat) := a.extract 0 na ++ b.extract 0 nb ++ out.reverse
  let firstOfB (out : Array Keyed) (na nb : Nat) := b.extract 0 nb ++ a.extract 0 na ++ out.reverse
  let mut na := a.size - 1
  let mut nb := b.size
  let mut out : Array Keyed := #[← elem' a na]
  if na == 0 then return done out na nb
  if nb == 1 then return firstOfB out na nb
  let mut minGallop := gallopOf (← get)
  for _ in [0:total] do
    let mut acount := 0
    let mut bcount := 0
    for _ in [0:total] do
      let some aWins ← lt' (← elem' b (nb - 1)) (← elem' a (na - 1)) | return done out na nb
      if aWins then
        na := na - 1; out := out.push (← elem' a na); acount := acount + 1; bcount := 0
        if na == 0 then return done out na nb
        if acount ≥ minGallop then break
      else
        nb := nb - 1; out := out.push (← elem' b nb); bcount := bcount + 1; acount := 0
        if nb == 1 then return firstOfB out na nb
        if bcount ≥ minGallop then break
    rule "list.sort.gallop"
    minGallop := minGallop + 1
    for _ in [0:total] do
      if minGallop > 1 then minGallop := minGallop - 1
      modify (fun st => setGal st minGallop)
      let some at_ ← gallop' false (← elem' b (nb - 1)) a 0 na (na - 1) | return done out na nb
      let k := na - at_
      acount := k
      if k > 0 then
        out := out ++ (a.extract at_ na).reverse; na := at_
        if na == 0 then return done out na nb
      nb := nb - 1; out := out.push (← elem' b nb)
      if nb == 1 then return firstOfB out na nb
      let some at_ ← gallop' true (← elem' a (na - 1)) b 0 nb (nb - 1) | return done out na nb
      let k := nb - at_
      bcount := k
      if k > 0 then
        out := out ++ (b.extract at_ nb).reverse; nb := at_
        if nb == 1 then return firstOfB out na nb
        if nb == 0 then return done out na nb
      na := na - 1; out := out.push (← elem' a na)
      if na == 0 then return done out na nb
      if acount < 7 && bcount < 7 then break
    minGallop := minGallop + 1
    modify (fun st => setGal st minGallop)
  unsupported "internal:list.sort.merge-bound") := rfl

noncomputable abbrev HiSt := Option (Array Keyed) × Nat × Nat × Array Keyed × Nat × Nat × Nat
noncomputable abbrev HiS1 := Option (Array Keyed) × Nat × Nat × Array Keyed × Nat × Nat
noncomputable abbrev HiS0 := Option (Array Keyed) × Nat × Nat × Array Keyed × Nat
noncomputable abbrev hDone (a b out : Array Keyed) (na nb : Nat) : Array Keyed := a.extract 0 na ++ b.extract 0 nb ++ out.reverse
noncomputable abbrev hFirst (a b out : Array Keyed) (na nb : Nat) : Array Keyed := b.extract 0 nb ++ a.extract 0 na ++ out.reverse
noncomputable def hiB3 (a b : Array Keyed) (na nb : Nat) (out : Array Keyed) (mg ac bc : Nat) : StateT SortSt Sem (ForInStep HiSt) := do
  let x ← elem' a (na - 1)
  if (na - 1 == 0) = true then pure (ForInStep.done (some (hDone a b (out.push x) (na - 1) nb), na - 1, nb, out.push x, mg, ac, bc))
  else if (decide (ac < 7) && decide (bc < 7)) = true then pure (ForInStep.done (none, na - 1, nb, out.push x, mg, ac, bc))
  else pure (ForInStep.yield (none, na - 1, nb, out.push x, mg, ac, bc))
noncomputable def hiB2 (a b : Array Keyed) (na nb : Nat) (out : Array Keyed) (mg ac bc : Nat) : StateT SortSt Sem (ForInStep HiSt) := do
  let x ← elem' b (nb - 1)
  if (nb - 1 == 1) = true then pure (ForInStep.done (some (hFirst a b (out.push x) na (nb - 1)), na, nb - 1, out.push x, mg, ac, bc))
  else do
    let y ← elem' a (na - 1)
    let __x ← gallop' true y b 0 (nb - 1) (nb - 1 - 1)
    match __x with
    | some q =>
      if nb - 1 - q > 0 then
        if (q == 1) = true then pure (ForInStep.done (some (hFirst a b (out.push x ++ (b.extract q (nb - 1)).reverse) na q), na, q, out.push x ++ (b.extract q (nb - 1)).reverse, mg, ac, nb - 1 - q))
        else if (q == 0) = true then pure (ForInStep.done (some (hDone a b (out.push x ++ (b.extract q (nb - 1)).reverse) na q), na, q, out.push x ++ (b.extract q (nb - 1)).reverse, mg, ac, nb - 1 - q))
        else hiB3 a b na q (out.push x ++ (b.extract q (nb - 1)).reverse) mg ac (nb - 1 - q)
      else hiB3 a b na (nb - 1) (out.push x) mg ac (nb - 1 - q)
    | _ => pure (ForInStep.done (some (hDone a b (out.push x) na (nb - 1)), na, nb - 1, out.push x, mg, ac, bc))
noncomputable def hiB1 (a b : Array Keyed) (na nb : Nat) (out : Array Keyed) (mg ac bc : Nat) : StateT SortSt Sem (ForInStep HiSt) := do
  modify fun st => setGal st mg
  let x ← elem' b (nb - 1)
  let __x ← gallop' false x a 0 na (na - 1)
  match __x with
  | some q =>
    if na - q > 0 then
      if (q == 0) = true then pure (ForInStep.done (some (hDone a b (out ++ (a.extract q na).reverse) q nb), q, nb, out ++ (a.extract q na).reverse, mg, na - q, bc))
      else hiB2 a b q nb (out ++ (a.extract q na).reverse) mg (na - q) bc
    else hiB2 a b na nb out mg (na - q) bc
  | _ => pure (ForInStep.done (some (hDone a b out na nb), na, nb, out, mg, ac, bc))
noncomputable def hiG (a b : Array Keyed) (na nb : Nat) (out : Array Keyed) (mg ac bc : Nat) : StateT SortSt Sem HiSt :=
  forIn [0:a.size + b.size] ((none, na, nb, out, mg, ac, bc) : HiSt) fun x c =>
    if c.snd.snd.snd.snd.fst > 1 then hiB1 a b c.snd.fst c.snd.snd.fst c.snd.snd.snd.fst (c.snd.snd.snd.snd.fst - 1) c.snd.snd.snd.snd.snd.fst c.snd.snd.snd.snd.snd.snd
    else hiB1 a b c.snd.fst c.snd.snd.fst c.snd.snd.snd.fst c.snd.snd.snd.snd.fst c.snd.snd.snd.snd.snd.fst c.snd.snd.snd.snd.snd.snd
noncomputable def hiA (a b : Array Keyed) (na nb : Nat) (out : Array Keyed) (mg : Nat) : StateT SortSt Sem HiS1 :=
  forIn [0:a.size + b.size] ((none, na, nb, out, 0, 0) : HiS1) fun x c => do
    let y ← elem' b (c.snd.snd.fst - 1)
    let z ← elem' a (c.snd.fst - 1)
    let __x ← lt' y z
    match __x with
    | some aWins =>
      if aWins = true then do
        let q ← elem' a (c.snd.fst - 1)
        if (c.snd.fst - 1 == 0) = true then pure (ForInStep.done (some (hDone a b (c.snd.snd.snd.fst.push q) (c.snd.fst - 1) c.snd.snd.fst), c.snd.fst - 1, c.snd.snd.fst, c.snd.snd.snd.fst.push q, c.snd.snd.snd.snd.fst + 1, 0))
        else if c.snd.snd.snd.snd.fst + 1 ≥ mg then pure (ForInStep.done (none, c.snd.fst - 1, c.snd.snd.fst, c.snd.snd.snd.fst.push q, c.snd.snd.snd.snd.fst + 1, 0))
        else pure (ForInStep.yield (none, c.snd.fst - 1, c.snd.snd.fst, c.snd.snd.snd.fst.push q, c.snd.snd.snd.snd.fst + 1, 0))
      else do
        let q ← elem' b (c.snd.snd.fst - 1)
        if (c.snd.snd.fst - 1 == 1) = true then pure (ForInStep.done (some (hFirst a b (c.snd.snd.snd.fst.push q) c.snd.fst (c.snd.snd.fst - 1)), c.snd.fst, c.snd.snd.fst - 1, c.snd.snd.snd.fst.push q, 0, c.snd.snd.snd.snd.snd + 1))
        else if c.snd.snd.snd.snd.snd + 1 ≥ mg then pure (ForInStep.done (none, c.snd.fst, c.snd.snd.fst - 1, c.snd.snd.snd.fst.push q, 0, c.snd.snd.snd.snd.snd + 1))
        else pure (ForInStep.yield (none, c.snd.fst, c.snd.snd.fst - 1, c.snd.snd.snd.fst.push q, 0, c.snd.snd.snd.snd.snd + 1))
    | _ => pure (ForInStep.done (some (hDone a b c.snd.snd.snd.fst c.snd.fst c.snd.snd.fst), c.snd.fst, c.snd.snd.fst, c.snd.snd.snd.fst, c.snd.snd.snd.snd.fst, c.snd.snd.snd.snd.snd))
noncomputable def hiAll (a b : Array Keyed) : StateT SortSt Sem (Array Keyed) := do
  liftM (rule "list.sort.merge-hi")
  let y ← elem' a (a.size - 1)
  if (a.size - 1 == 0) = true then pure (hDone a b #[y] (a.size - 1) b.size)
  else if (b.size == 1) = true then pure (hFirst a b #[y] (a.size - 1) b.size)
  else do
    let g ← get
    let __s ← forIn [0:a.size + b.size] ((none, a.size - 1, b.size, #[y], gallopOf g) : HiS0) fun x c => do
      let d ← hiA a b c.snd.fst c.snd.snd.fst c.snd.snd.snd.fst c.snd.snd.snd.snd
      match d.fst with
      | some r => pure (ForInStep.done ((some r, d.snd.fst, d.snd.snd.fst, d.snd.snd.snd.fst, c.snd.snd.snd.snd) : HiS0))
      | none => do
        liftM (rule "list.sort.gallop")
        let e ← hiG a b d.snd.fst d.snd.snd.fst d.snd.snd.snd.fst (c.snd.snd.snd.snd + 1) d.snd.snd.snd.snd.fst d.snd.snd.snd.snd.snd
        match e.fst with
        | some r => pure (ForInStep.done ((some r, e.snd.fst, e.snd.snd.fst, e.snd.snd.snd.fst, e.snd.snd.snd.snd.fst) : HiS0))
        | none => do
          modify fun st => setGal st (e.snd.snd.snd.snd.fst + 1)
          pure (ForInStep.yield ((none, e.snd.fst, e.snd.snd.fst, e.snd.snd.snd.fst, e.snd.snd.snd.snd.fst + 1) : HiS0))
    match __s.fst with
    | some r => pure r
    | none => unsupported "internal:list.sort.merge-bound"
set_option smartUnfolding false in
theorem hiAll_eq (a b : Array Keyed) : mergeHi' a b = hiAll a b := by
  rw [mergeHi'_eq]
  rfl
end Mine

set_option autoImplicit false
set_option backward.match.sparseCases true
set_option linter.unusedVariables false
namespace Mine
open PySem PyProof.Rows
section
variable {prog : Program} {w : World} {A : Around} {E : Value → Shared → Prop} {s : Shared} {κ : PyProof.Rows.KeyKind}
structure HiC (κ : PyProof.Rows.KeyKind) (a b : Array Keyed) : Prop extends LoC κ a b where
  bot : ∀ y, b[0]? = some y → ∀ x ∈ a.toList, leK κ y x
structure HI (κ : PyProof.Rows.KeyKind) (a b : Array Keyed) (na nb : Nat) (out : Array Keyed) (n0 : Nat) : Prop where
  m : MHi κ a.toList b.toList na nb out
  ha : 1 ≤ na
  ha2 : na ≤ a.size
  hb : 2 ≤ nb
  hb2 : nb ≤ b.size
  n : n0 + (na + nb) ≤ a.size + b.size
variable {a b out : Array Keyed} {na nb n0 mg ac bc : Nat} {st : SortSt}
theorem HiC.one (C : HiC κ a b) {nb : Nat} (h : nb = 1) : ∀ y ∈ b.toList.take nb, ∀ x ∈ a.toList, leK κ y x := by
  intro y hy x hx
  obtain ⟨j, h1, h2, h3⟩ := mem_takeA hy
  have : j = 0 := by exact ar182 h h1
  subst this
  exact C.bot y h3 x hx
noncomputable def HOut (κ : PyProof.Rows.KeyKind) (a b : Array Keyed) (n0 : Nat) (c : HiSt) : Prop := match c.1 with
  | some r => Good κ a.toList b.toList r
  | none => HI κ a b c.2.1 c.2.2.1 c.2.2.2.1 n0
noncomputable def HStep (κ : PyProof.Rows.KeyKind) (a b : Array Keyed) (n0 : Nat) (st : SortSt) (r : ForInStep HiSt) (st' : SortSt) : Prop := SameS st st' ∧ match r with
  | .done c => HOut κ a b n0 c
  | .yield c => c.1 = none ∧ HI κ a b c.2.1 c.2.2.1 c.2.2.2.1 (n0 + 1)
theorem SL.last_ge {xs : Array Keyed} (h : SL κ xs.toList) {n : Nat} {x : Keyed} (h1 : 1 ≤ n) (hn : n ≤ xs.size) (hx : xs[n - 1]? = some x) : ∀ y ∈ xs.toList.take n, leK κ y x := by
  intro y hy
  obtain ⟨j, j1, j2, j3⟩ := mem_takeA hy
  have := h.kk (show j ≤ n - 1 by exact ar181 j1) (by exact ar163 h1 hn)
  rw [KK_some j3, KK_some hx] at this
  exact this

theorem wpS_hiB3 {st0 : SortSt} (C : HiC κ a b) (h : HI κ a b na nb out n0) (hS : SameS st0 st) {x : Keyed} (hx : a[na - 1]? = some x) (hl : ∀ y ∈ b.toList.take nb, leK κ y x) :
    wpS (model prog w) A E s (hiB3 a b na nb out mg ac bc) (HStep κ a b n0 st0) st := by
  have hh1 := h.ha; have hh2 := h.hb; have hh3 := h.n; have hh4 := h.ha2; have hh5 := h.hb2
  have M : MHi κ a.toList b.toList (na - 1) nb (out.push x) := MHi.pushA (by rw [show na - 1 + 1 = na by exact ar153 hh1]; exact h.m) C.sa hx hl
  unfold hiB3
  refine wpS_bind (wpS_elem hx ?_)
  by_cases h1 : na - 1 = 0
  · rw [if_pos (by simpa using h1)]
    exact wpS_pure ⟨hS, M.done C.sa C.sb (.inl h1)⟩
  · rw [if_neg (by simpa using h1)]
    split
    · exact wpS_pure ⟨hS, M, by dsimp only; exact ar152 h1, by dsimp only; exact ar156 hh4, hh2, hh5, by dsimp only; exact ar180 hh3⟩
    · exact wpS_pure ⟨hS, rfl, M, by dsimp only; exact ar152 h1, by dsimp only; exact ar156 hh4, hh2, hh5, by dsimp only; exact ar179 hh3 h1⟩

theorem wpS_hiB2 {st0 : SortSt} (hO : κ.OneLt) (C : HiC κ a b) (h : HI κ a b na nb out n0) (hS : SameS st0 st) {x : Keyed} (hx : b[nb - 1]? = some x) (hl : ∀ y ∈ a.toList.take na, leK κ y x) :
    wpS (model prog w) A E s (hiB2 a b na nb out mg ac bc) (HStep κ a b n0 st0) st := by
  have hh1 := h.ha; have hh2 := h.hb; have hh3 := h.n; have hh4 := h.ha2; have hh5 := h.hb2
  have M : MHi κ a.toList b.toList na (nb - 1) (out.push x) := MHi.pushB (by rw [show nb - 1 + 1 = nb by exact ar159 hh2]; exact h.m) C.sb hx hl
  unfold hiB2
  refine wpS_bind (wpS_elem hx ?_)
  by_cases h1 : nb - 1 = 1
  · rw [if_pos (by simpa using h1)]
    exact wpS_pure ⟨hS, M.first C.sa C.sb (C.one h1)⟩
  · rw [if_neg (by simpa using h1)]
    obtain ⟨y, hy⟩ := get_some (xs := a) (i := na - 1) (by exact ar163 hh1 hh4)
    have hyl := C.sa.last_ge hh1 hh4 hy
    refine wpS_bind (wpS_elem hy ?_)
    refine wpS_bind (wpS_gallopL hO hS.kind C.kb (KeysOf.at C.ka hy) (by exact ar178 hh5) (C.sb.srt (by exact ar178 hh5)) (by exact ar177 hh2) fun q hq h2 h3 => ?_)
    dsimp only
    simp only [Nat.zero_add] at h2 h3
    have rest : ∀ z ∈ b.toList.take q, leK κ z y := by
      intro z hz
      obtain ⟨j, j1, j2, j3⟩ := mem_takeA hz
      have := h2 j j1
      rw [KK_some j3] at this
      exact KeyOrd.kle_of_klt this
    by_cases hk0 : nb - 1 - q > 0
    · rw [if_pos hk0]
      have M2 := M.takeB (k := q) C.sb (by exact ar156 hh5) (by assumption) (by
        intro z hz p hp
        obtain ⟨j, j1, j2, j3, j4⟩ := mem_mid hz
        have := h3 j j1 j2
        rw [KK_some j4] at this
        exact leK.trans (hyl p hp) this)
      by_cases h4 : q = 1
      · rw [if_pos (by simpa using h4)]
        exact wpS_pure ⟨hS, M2.first C.sa C.sb (C.one h4)⟩
      · rw [if_neg (by simpa using h4)]
        by_cases h5 : q = 0
        · rw [if_pos (by simpa using h5)]
          exact wpS_pure ⟨hS, M2.done C.sa C.sb (.inr h5)⟩
        · rw [if_neg (by simpa using h5)]
          exact wpS_hiB3 C ⟨M2, by assumption, by assumption, by exact ar176 h4 h5, by exact ar175 hh5 hk0, by exact ar174 hh3 hk0⟩ hS hy rest
    · rw [if_neg hk0]
      have : q = nb - 1 := by exact ar173 hq hk0
      subst this
      exact wpS_hiB3 C ⟨M, by assumption, by assumption, by exact ar157 hh2 h1, by exact ar156 hh5, by exact ar172 hh3⟩ hS hy rest

theorem wpS_hiB1 {st0 : SortSt} (hO : κ.OneLt) (C : HiC κ a b) (h : HI κ a b na nb out n0) (hS : SameS st0 st) :
    wpS (model prog w) A E s (hiB1 a b na nb out mg ac bc) (HStep κ a b n0 st0) st := by
  have hh1 := h.ha; have hh2 := h.hb; have hh3 := h.n; have hh4 := h.ha2; have hh5 := h.hb2
  unfold hiB1
  refine wpS_bind (wpS_modify ?_)
  have hS' := hS.gal mg
  obtain ⟨x, hx⟩ := get_some (xs := b) (i := nb - 1) (by exact ar164 hh2 hh5)
  have hxl := C.sb.last_ge (by exact ar162 hh2) hh5 hx
  refine wpS_bind (wpS_elem hx ?_)
  refine wpS_bind (wpS_gallopR hO hS'.kind C.ka (KeysOf.at C.kb hx) (by exact ar171 hh4) (C.sa.srt (by exact ar171 hh4)) (by exact ar154 hh1) fun q hq h2 h3 => ?_)
  dsimp only
  simp only [Nat.zero_add] at h2 h3
  have rest : ∀ z ∈ a.toList.take q, leK κ z x := by
    intro z hz
    obtain ⟨j, j1, j2, j3⟩ := mem_takeA hz
    have := h2 j j1
    rw [KK_some j3] at this
    exact this
  by_cases hk0 : na - q > 0
  · rw [if_pos hk0]
    have M := h.m.takeA (k := q) C.sa (by assumption) (by assumption) (by
      intro z hz p hp
      obtain ⟨j, j1, j2, j3, j4⟩ := mem_mid hz
      have := h3 j j1 j2
      rw [KK_some j4] at this
      exact leK.trans (hxl p hp) (KeyOrd.kle_of_klt this))
    by_cases h4 : q = 0
    · rw [if_pos (by simpa using h4)]
      exact wpS_pure ⟨hS', M.done C.sa C.sb (.inl h4)⟩
    · rw [if_neg (by simpa using h4)]
      exact wpS_hiB2 hO C ⟨M, by exact ar170 h4, by exact ar169 hh4 hk0, by assumption, by assumption, by exact ar168 hh3 hk0⟩ hS' hx rest
  · rw [if_neg hk0]
    have : q = na := by exact ar167 hq hk0
    subst this
    exact wpS_hiB2 hO C h hS' hx rest

theorem wpS_hiG {st0 : SortSt} {Q : HiSt → SortSt → Prop} (hO : κ.OneLt) (C : HiC κ a b) (h : HI κ a b na nb out n0) (hS : SameS st0 st)
    (hq : ∀ c st', SameS st0 st' → HOut κ a b n0 c → Q c st') : wpS (model prog w) A E s (hiG a b na nb out mg ac bc) Q st := by
  unfold hiG
  refine wpS_mono (wpS_forRange (I := fun x c st' => SameS st0 st' ∧ c.1 = none ∧ HI κ a b c.2.1 c.2.2.1 c.2.2.2.1 (n0 + x)) (Q := fun c st' => SameS st0 st' ∧ HOut κ a b n0 c) ?step ?fin ⟨hS, rfl, h⟩) fun c st' hc => hq c st' hc.1 hc.2
  case fin =>
    rintro c st' ⟨h1, h2, h3⟩
    have := h3.ha; have := h3.hb; have := h3.n
    exact (ar165 (by assumption) this).elim
  case step =>
    rintro x ⟨r, o, i, j, g, p, q⟩ st' _ hx ⟨h1, rfl, h3⟩
    dsimp only at h3 ⊢
    have fin : ∀ (rr : ForInStep HiSt) (st2 : SortSt), HStep κ a b (n0 + x) st0 rr st2 → (match rr with | .done c' => SameS st0 st2 ∧ HOut κ a b n0 c' | .yield c' => SameS st0 st2 ∧ c'.1 = none ∧ HI κ a b c'.2.1 c'.2.2.1 c'.2.2.2.1 (n0 + (x + 1))) := by
      rintro rr st2 ⟨g1, g2⟩
      cases rr with
      | done c =>
        refine ⟨g1, ?_⟩
        unfold HOut at g2 ⊢
        obtain ⟨r, o⟩ := c
        cases r with
        | some r => exact g2
        | none => exact ⟨g2.m, g2.ha, g2.ha2, g2.hb, g2.hb2, by have := g2.n; exact ar166 this⟩
      | yield c => exact ⟨g1, g2⟩
    split
    · exact wpS_mono (wpS_hiB1 hO C h3 h1) fun rr st2 hh => by have := fin rr st2 hh; cases rr <;> exact this
    · exact wpS_mono (wpS_hiB1 hO C h3 h1) fun rr st2 hh => by have := fin rr st2 hh; cases rr <;> exact this

noncomputable def BOut (κ : PyProof.Rows.KeyKind) (a b : Array Keyed) (n0 : Nat) (c : HiS1) : Prop := match c.1 with
  | some r => Good κ a.toList b.toList r
  | none => HI κ a b c.2.1 c.2.2.1 c.2.2.2.1 (n0 + 1)
theorem wpS_hiA {Q : HiS1 → SortSt → Prop} (hO : κ.OneLt) (C : HiC κ a b) (h : HI κ a b na nb out n0) (hk : kindOf st = oneType')
    (hq : ∀ c, BOut κ a b n0 c → Q c st) : wpS (model prog w) A E s (hiA a b na nb out mg) Q st := by
  unfold hiA
  refine wpS_mono (wpS_forRange (I := fun x c st' => st' = st ∧ c.1 = none ∧ HI κ a b c.2.1 c.2.2.1 c.2.2.2.1 (n0 + x)) (Q := fun c st' => st' = st ∧ BOut κ a b n0 c) ?step ?fin ⟨rfl, rfl, h⟩) fun c st' hc => by obtain ⟨rfl, hc⟩ := hc; exact hq c hc
  case fin =>
    rintro c st' ⟨h1, h2, h3⟩
    have := h3.ha; have := h3.hb; have := h3.n
    exact (ar165 (by assumption) this).elim
  case step =>
    rintro x ⟨r, i, j, o, p, q⟩ st' _ hx ⟨hst, hr, h3⟩
    have hst := hst.symm
    subst hst
    dsimp only at hr
    subst hr
    dsimp only at h3 ⊢
    have hh1 := h3.ha; have hh2 := h3.hb; have hh3 := h3.n; have hh4 := h3.ha2; have hh5 := h3.hb2
    obtain ⟨y, hy⟩ := get_some (xs := b) (i := j - 1) (by exact ar164 hh2 hh5)
    obtain ⟨z, hz⟩ := get_some (xs := a) (i := i - 1) (by exact ar163 hh1 hh4)
    have hyl := C.sb.last_ge (by exact ar162 hh2) hh5 hy
    have hzl := C.sa.last_ge hh1 hh4 hz
    refine wpS_bind (wpS_elem hy (wpS_bind (wpS_elem hz ?_)))
    refine wpS_bind (wpS_ltP hO hk (KeysOf.at C.kb hy) (KeysOf.at C.ka hz) ?_)
    dsimp only
    cases hw : κ.blt (kyOf κ y) (kyOf κ z)
    case true =>
      simp only [if_true]
      refine wpS_bind (wpS_elem hz ?_)
      have M : MHi κ a.toList b.toList (i - 1) j (o.push z) := MHi.pushA (by rw [show i - 1 + 1 = i by exact ar153 hh1]; exact h3.m) C.sa hz fun q hq => leK.trans (hyl q hq) (KeyOrd.kle_of_klt hw)
      by_cases e1 : i - 1 = 0
      · rw [if_pos (by simpa using e1)]
        exact wpS_pure ⟨rfl, M.done C.sa C.sb (.inl e1)⟩
      · rw [if_neg (by simpa using e1)]
        split
        · exact wpS_pure ⟨rfl, M, by dsimp only; exact ar152 e1, by dsimp only; exact ar156 hh4, hh2, hh5, by dsimp only; exact ar161 hh1 hh3⟩
        · exact wpS_pure ⟨rfl, rfl, M, by dsimp only; exact ar152 e1, by dsimp only; exact ar156 hh4, hh2, hh5, by dsimp only; exact ar160 hh1 hh3⟩
    case false =>
      simp only [Bool.false_eq_true, if_false]
      refine wpS_bind (wpS_elem hy ?_)
      have M : MHi κ a.toList b.toList i (j - 1) (o.push y) := MHi.pushB (by rw [show j - 1 + 1 = j by exact ar159 hh2]; exact h3.m) C.sb hy fun q hq => leK.trans (hzl q hq) (show leK κ z y from hw)
      by_cases e1 : j - 1 = 1
      · rw [if_pos (by simpa using e1)]
        exact wpS_pure ⟨rfl, M.first C.sa C.sb (C.one e1)⟩
      · rw [if_neg (by simpa using e1)]
        split
        · exact wpS_pure ⟨rfl, M, hh1, hh4, by dsimp only; exact ar157 hh2 e1, by dsimp only; exact ar156 hh5, by dsimp only; exact ar158 hh2 hh3⟩
        · exact wpS_pure ⟨rfl, rfl, M, hh1, hh4, by dsimp only; exact ar157 hh2 e1, by dsimp only; exact ar156 hh5, by dsimp only; exact ar155 hh2 hh3⟩

theorem wpS_mergeHi {Q : Array Keyed → SortSt → Prop} (hO : κ.OneLt) (C : HiC κ a b) (ha : 1 ≤ a.size) (hb : 1 ≤ b.size) (hk : kindOf st = oneType')
    (hq : ∀ r st', SameS st st' → Good κ a.toList b.toList r → Q r st') : wpS (model prog w) A E s (mergeHi' a b) Q st := by
  rw [hiAll_eq]
  unfold hiAll
  refine wpS_bind (wpS_lift (wpAny_rule ⟨rfl, ?_⟩))
  obtain ⟨y, hy⟩ := get_some (xs := a) (i := a.size - 1) (by exact ar154 ha)
  refine wpS_bind (wpS_elem hy ?_)
  have M0 : MHi κ a.toList b.toList (a.size - 1 + 1) b.size #[] := ⟨.nil, by simp, by
    rw [show a.size - 1 + 1 = a.size by exact ar153 ha, List.take_of_length_le (by simp), List.take_of_length_le (by simp)]; simp, by simp; exact ar153 ha⟩
  have M : MHi κ a.toList b.toList (a.size - 1) b.size (#[].push y) := M0.pushA C.sa hy fun z hz => C.top y hy z (List.mem_of_mem_take hz)
  rw [show (#[] : Array Keyed).push y = #[y] from rfl] at M
  by_cases e1 : a.size - 1 = 0
  · rw [if_pos (by simpa using e1)]
    exact wpS_pure (hq _ _ (.refl hk) (M.done C.sa C.sb (.inl e1)))
  · rw [if_neg (by simpa using e1)]
    by_cases e2 : b.size = 1
    · rw [if_pos (by simpa using e2)]
      exact wpS_pure (hq _ _ (.refl hk) (M.first C.sa C.sb (C.one e2)))
    · rw [if_neg (by simpa using e2)]
      refine wpS_bind (wpS_get ?_)
      refine wpS_bind (wpS_mono (wpS_forRange (I := fun x c st' => SameS st st' ∧ c.1 = none ∧ HI κ a b c.2.1 c.2.2.1 c.2.2.2.1 x) (Q := fun c st' => SameS st st' ∧ ∃ r, c.1 = some r ∧ Good κ a.toList b.toList r) ?step ?fin ⟨.refl hk, rfl, M, by dsimp only; exact ar152 e1, by dsimp only; exact ar151, by dsimp only; exact ar150 hb e2, by dsimp only; exact ar21, by dsimp only; exact ar149⟩) ?post)
      case post =>
        rintro ⟨r, c⟩ st' ⟨h1, r', rfl, h2⟩
        exact wpS_pure (hq _ _ h1 h2)
      case fin =>
        rintro c st' ⟨h1, h2, h3⟩
        have := h3.ha; have := h3.hb; have := h3.n
        exact (ar148 (by assumption) this).elim
      case step =>
        rintro x ⟨r, i, j, o, g⟩ st' _ hx ⟨h1, rfl, h3⟩
        dsimp only at h3 ⊢
        refine wpS_bind (wpS_hiA hO C h3 h1.kind fun d hd => ?_)
        obtain ⟨dr, d⟩ := d
        cases dr with
        | some r => exact wpS_pure ⟨h1, r, rfl, hd⟩
        | none =>
          dsimp only
          refine wpS_bind (wpS_lift (wpAny_rule ⟨rfl, ?_⟩))
          refine wpS_bind (wpS_hiG hO C hd h1 fun e st2 h4 h5 => ?_)
          obtain ⟨er, e⟩ := e
          cases er with
          | some r => exact wpS_pure ⟨h4, r, rfl, h5⟩
          | none =>
            dsimp only
            exact wpS_bind (wpS_modify (wpS_pure ⟨h4.gal _, rfl, h5⟩))
end
end Mine

set_option autoImplicit false
set_option backward.match.sparseCases true
set_option linter.unusedVariables false
namespace Mine
open PySem PyProof.Rows
section
variable {prog : Program} {w : World} {A : Around} {E : Value → Shared → Prop} {s : Shared} {κ : PyProof.Rows.KeyKind}

theorem mergeAt'_eq (i : Nat) : mergeAt' i = (do
  let s ← get
  let (some (sa, na, power), some (sb, nb, _)) := ((pendingOf s)[i]?, (pendingOf s)[i + 1]?) | unsupported "internal:list.sort.pending"
  set (setPending s (((pendingOf s).setIfInBounds i (sa, na + nb, power)).eraseIdxIfInBounds (i + 1)))
  let some k ← gallop' false (← elem' (arrOf s) sb) (arrOf s) sa na 0 | return false
  let (sa, na) := (sa + k, na - k)
  if na == 0 then return true
  let some nb ← gallop' true (← elem' (arrOf s) (sa + na - 1)) (arrOf s) sb nb (nb - 1) | return false
  if nb == 0 then return true
  let x := (arrOf s).extract sa sb
  let y := (arrOf s).extract sb (sb + nb)
  let merged ← if na ≤ nb then mergeLo' x y else mergeHi' x y
  modify fun s => setArr s (merged.toList.zipIdx.foldl (fun a (p, j) => a.setIfInBounds (sa + j) p) (arrOf s))
  return (failedOf (← get)).isNone) := rfl

theorem wpS_set {st st' : SortSt} {Q : PUnit → SortSt → Prop} (h : Q ⟨⟩ st') : wpS (model prog w) A E s (set st' : StateT SortSt Sem PUnit) Q st := by
  unfold wpS; rw [StateT.run_set]; exact wpAny_pure ⟨rfl, h⟩

theorem fold_set (sa : Nat) : ∀ (m : List Keyed) (j : Nat) (X : Array Keyed), sa + j + m.length ≤ X.size →
    ((m.zipIdx j).foldl (fun a (p : Keyed × Nat) => a.setIfInBounds (sa + p.2) p.1) X).toList = X.toList.take (sa + j) ++ m ++ X.toList.drop (sa + j + m.length)
  | [], j, X, _ => by simp
  | x :: m, j, X, h => by
    rw [List.zipIdx_cons, List.foldl_cons, fold_set sa m (j + 1) _ (by rw [Array.size_setIfInBounds]; simp at h; exact ar235 h)]
    simp only [List.length_cons] at h ⊢
    have hX : (X.setIfInBounds (sa + j) x).toList = X.toList.set (sa + j) x := Array.toList_setIfInBounds ..
    rw [hX]
    have hl : sa + j < X.toList.length := by rw [Array.length_toList]; exact ar234 h
    rw [show sa + (j + 1) = sa + j + 1 by exact ar233]
    rw [List.take_succ_eq_append_getElem (by rw [List.length_set]; exact hl), List.getElem_set_self]
    rw [List.take_set_of_le (by exact ar232), List.drop_set_of_lt (by exact ar231)]
    rw [show sa + j + 1 + m.length = sa + j + (m.length + 1) by exact ar230]
    simp

theorem SL_ext {X : Array Keyed} {i j : Nat} (hj : j ≤ X.size) (h : ∀ p q, i ≤ p → p ≤ q → q < j → κ.kle (KK κ X p) (KK κ X q)) : SL κ (X.extract i j).toList := by
  unfold SL
  rw [List.pairwise_iff_getElem]
  intro p q hp hq hpq
  have hsz : (X.extract i j).toList.length = j - i := by rw [Array.length_toList, Array.size_extract]; exact ar229 hj
  have hp' : i + p < X.size := by exact ar228 hj hq hpq hsz
  have hq' : i + q < X.size := by exact ar227 hj hq hsz
  have e : ∀ (r : Nat) (hr : r < (X.extract i j).toList.length) (hr' : i + r < X.size), (X.extract i j).toList[r] = X[i + r] := by
    intro r hr hr'
    simp
  rw [e p hp hp', e q hq hq']
  have := h (i + p) (i + q) (by exact ar33) (by exact ar226 hpq) (by exact ar225 hq hsz)
  rw [KK_some (getElem?_pos X _ hp'), KK_some (getElem?_pos X _ hq')] at this
  exact this
theorem mem_ext {X : Array Keyed} {i j : Nat} {x : Keyed} (h : x ∈ (X.extract i j).toList) : ∃ p, i ≤ p ∧ p < j ∧ p < X.size ∧ X[p]? = some x := by
  rw [ext_mid] at h
  obtain ⟨p, h1, h2, h3, h4⟩ := mem_mid h
  exact ⟨p, h1, h2, h3, h4⟩
theorem ext_get {X : Array Keyed} {i j p : Nat} (hp : i + p < j) (hj : j ≤ X.size) : (X.extract i j)[p]? = X[i + p]? := by
  rw [Array.getElem?_extract]
  rw [if_pos (by exact ar224 hp hj)]
theorem ext_KK {X : Array Keyed} {i j p : Nat} (hp : i + p < j) (hj : j ≤ X.size) : KK κ (X.extract i j) p = KK κ X (i + p) := KK_congr (ext_get hp hj)

/-- two sorted runs next to each other -/
theorem wpS_mergeAt {b : Array Keyed} {st : SortSt} {n1 n2 pw z : Nat} {Q : Bool → SortSt → Prop} (hO : κ.OneLt) (h0 : KeysOf κ b) (hB : SI κ b 0 #[(0, n1, pw), (n1, n2, z)] st)
    (h1 : 1 ≤ n1) (h2 : 1 ≤ n2) (hn : n1 + n2 = b.size) (s1 : Srt κ (arrOf st) 0 n1) (s2 : Srt κ (arrOf st) n1 n2)
    (hq : ∀ st', SI κ b 0 #[(0, n1 + n2, pw)] st' → SortedToK κ (arrOf st') b.size → Q true st') : wpS (model prog w) A E s (mergeAt' 0) Q st := by
  have hsz := hB.size
  have hK : KeysOf κ (arrOf st) := fun p hp => h0 p ((Array.perm_iff_toList_perm.mp hB.perm).mem_iff.mp hp)
  rw [mergeAt'_eq]
  refine wpS_bind (wpS_get ?_)
  have e0 : (pendingOf st)[0]? = some (0, n1, pw) := by rw [hB.pend]; rfl
  have e1 : (pendingOf st)[0 + 1]? = some (n1, n2, z) := by rw [hB.pend]; rfl
  rw [e0, e1]
  dsimp only
  refine wpS_bind (wpS_set ?_)
  have e2 : ((pendingOf st).setIfInBounds 0 (0, n1 + n2, pw)).eraseIdxIfInBounds (0 + 1) = #[(0, n1 + n2, pw)] := by rw [hB.pend]; simp
  rw [e2]
  generalize hX : arrOf st = X at *
  have hX' : arrOf (setPending st #[(0, n1 + n2, pw)]) = X := hX
  have hB1 : SI κ b 0 #[(0, n1 + n2, pw)] (setPending st #[(0, n1 + n2, pw)]) := ⟨hB.perm, hB.kind, hB.failed, rfl, fun k hk => absurd hk (Nat.not_lt_zero _)⟩
  have a1 : ∀ p q, p ≤ q → q < n1 → κ.kle (KK κ X p) (KK κ X q) := fun p q hpq hq => by have := s1 p q hpq hq; rwa [Nat.zero_add, Nat.zero_add] at this
  have a2 : ∀ p q, n1 ≤ p → p ≤ q → q < n1 + n2 → κ.kle (KK κ X p) (KK κ X q) := fun p q hp hpq hq => by
    have := s2 (p - n1) (q - n1) (by exact ar223 hpq) (by exact ar222 hp hpq hq)
    rwa [show n1 + (p - n1) = p by exact ar39 hp, show n1 + (q - n1) = q by exact ar221 hp hpq] at this
  obtain ⟨kx, hkx⟩ := get_some (xs := X) (i := n1) (by exact ar220 h2 hn hsz)
  refine wpS_bind (wpS_elem hkx ?_)
  refine wpS_bind (wpS_gallopR hO hB.kind hK (KeysOf.at hK hkx) (by exact ar219 hn hsz) s1 (by exact ar218 h1) fun k hk g1 g2 => ?_)
  dsimp only
  rw [← KK_some hkx] at g1 g2
  simp only [Nat.zero_add] at g1 g2 ⊢
  by_cases hna : n1 - k = 0
  · rw [if_pos (by simpa using hna)]
    refine wpS_pure (hq _ hB1 fun i j hij hj => ?_)
    rw [hX']
    by_cases c1 : j < n1
    · exact a1 i j hij c1
    · by_cases c2 : i < n1
      · exact KeyOrd.kle_trans (g1 i (by exact ar217 hna c2)) (a2 n1 j (by exact ar21) (by exact ar198 c1) (by exact ar210 hn hj))
      · exact a2 i j (by exact ar198 c2) hij (by exact ar210 hn hj)
  · rw [if_neg (by simpa using hna)]
    rw [show k + (n1 - k) - 1 = n1 - 1 by exact ar216 hna]
    obtain ⟨ky, hky⟩ := get_some (xs := X) (i := n1 - 1) (by exact ar215 h2 hn hsz)
    refine wpS_bind (wpS_elem hky ?_)
    refine wpS_bind (wpS_gallopL hO hB.kind hK (KeysOf.at hK hky) (by exact ar214 hn hsz) s2 (by exact ar154 h2) fun m hm g3 g4 => ?_)
    dsimp only
    rw [← KK_some hky] at g3 g4
    by_cases hm0 : m = 0
    · rw [if_pos (by simpa using hm0)]
      refine wpS_pure (hq _ hB1 fun i j hij hj => ?_)
      rw [hX']
      by_cases c1 : j < n1
      · exact a1 i j hij c1
      · by_cases c2 : i < n1
        · have := g4 (j - n1) (by exact ar213 hm0) (by exact ar212 hn hj c1)
          rw [show n1 + (j - n1) = j by exact ar211 c1] at this
          exact KeyOrd.kle_trans (a1 i (n1 - 1) (by exact ar181 c2) (by exact ar199 c2)) this
        · exact a2 i j (by exact ar198 c2) hij (by exact ar210 hn hj)
    · rw [if_neg (by simpa using hm0)]
      have gx : ∀ i, k ≤ i → i < n1 → κ.klt (KK κ X n1) (KK κ X i) := g2
      have gy : ∀ j, n1 ≤ j → j < n1 + m → κ.klt (KK κ X j) (KK κ X (n1 - 1)) := fun j c1 c2 => by
        have := g3 (j - n1) (by exact ar42 c1 c2)
        rwa [show n1 + (j - n1) = j by exact ar39 c1] at this
      have gz : ∀ j, n1 + m ≤ j → j < n1 + n2 → κ.kle (KK κ X (n1 - 1)) (KK κ X j) := fun j c1 c2 => by
        have := g4 (j - n1) (by exact ar128 c1) (by exact ar209 c1 c2)
        rwa [show n1 + (j - n1) = j by exact ar126 c1] at this
      have zx : (X.extract k n1).size = n1 - k := by rw [Array.size_extract]; exact ar208 hn hsz
      have zy : (X.extract n1 (n1 + m)).size = m := by rw [Array.size_extract]; exact ar207 hn hsz hm
      have C : HiC κ (X.extract k n1) (X.extract n1 (n1 + m)) := by
        refine ⟨⟨fun p hp => ?_, fun p hp => ?_, SL_ext (by exact ar186 hn hsz) (fun p q _ c2 c3 => a1 p q c2 c3), SL_ext (by exact ar188 hn hsz hm) (fun p q c1 c2 c3 => a2 p q c1 c2 (by exact ar194 hm c3)), ?_⟩, ?_⟩
        · obtain ⟨q, _, _, _, c4⟩ := mem_ext hp; exact KeysOf.at hK c4
        · obtain ⟨q, _, _, _, c4⟩ := mem_ext hp; exact KeysOf.at hK c4
        · intro u hu v hv
          rw [zx, ext_get (by exact ar206 hna) (by exact ar186 hn hsz), show k + (n1 - k - 1) = n1 - 1 by exact ar205 hna, hky] at hu
          cases hu
          obtain ⟨q, c1, c2, _, c4⟩ := mem_ext hv
          have := gy q c1 c2
          rw [KK_some c4, KK_some hky] at this
          exact KeyOrd.kle_of_klt this
        · intro u hu v hv
          rw [ext_get (by exact ar189 hm0) (by exact ar188 hn hsz hm), Nat.add_zero, hkx] at hu
          cases hu
          obtain ⟨q, c1, c2, _, c4⟩ := mem_ext hv
          have := gx q c1 c2
          rw [KK_some c4, KK_some hkx] at this
          exact KeyOrd.kle_of_klt this
      have fin : ∀ r st', SameS (setPending st #[(0, n1 + n2, pw)]) st' → Good κ (X.extract k n1).toList (X.extract n1 (n1 + m)).toList r →
          wpS (model prog w) A E s (do
            modify fun s => setArr s (r.toList.zipIdx.foldl (fun a (p : Keyed × Nat) => a.setIfInBounds (k + p.2) p.1) (arrOf s))
            let x ← get
            pure (failedOf x).isNone) Q st' := by
        intro r st' hS hG
        refine wpS_bind (wpS_modify (wpS_bind (wpS_get (wpS_pure ?_))))
        have hf : failedOf st' = none := hS.failed.trans hB.failed
        show Q (failedOf st').isNone _
        rw [hf]
        have hrl : r.toList.length = (n1 - k) + m := by
          rw [hG.2.length_eq, List.length_append, Array.length_toList, Array.length_toList, zx, zy]
        have hfold := fold_set k r.toList 0 X (by exact ar204 hn hsz hk hm hrl)
        rw [Nat.add_zero] at hfold
        rw [show k + r.toList.length = n1 + m by exact ar203 hna hrl] at hfold
        have ea : arrOf st' = X := hS.arr.trans hX'
        rw [ea]
        generalize hY : (List.foldl (fun a (p : Keyed × Nat) => a.setIfInBounds (k + p.2) p.1) X r.toList.zipIdx) = Y at *
        have dec : X.toList = X.toList.take k ++ ((X.extract k n1).toList ++ (X.extract n1 (n1 + m)).toList) ++ X.toList.drop (n1 + m) := by
          rw [ext_mid, ext_mid, ← List.append_assoc, take_split X.toList (show k ≤ n1 by assumption), take_split X.toList (show n1 ≤ n1 + m by exact ar33), List.take_append_drop]
        have pY : Y.toList.Perm X.toList := by
          rw [hfold]
          exact (List.Perm.append_right _ (List.Perm.append_left _ hG.2)).trans (List.Perm.of_eq dec.symm)
        have mm : ∀ v ∈ r.toList, ∃ q, k ≤ q ∧ q < n1 + m ∧ q < X.size ∧ X[q]? = some v := by
          intro v hv
          rcases List.mem_append.mp (hG.2.mem_iff.mp hv) with h | h
          · obtain ⟨q, c1, c2, c3, c4⟩ := mem_ext h; exact ⟨q, c1, by exact ar202 c2, c3, c4⟩
          · obtain ⟨q, c1, c2, c3, c4⟩ := mem_ext h; exact ⟨q, by exact ar201 hna c1, c2, c3, c4⟩
        have lo : ∀ p q, p < k → k ≤ q → q < n1 + n2 → κ.kle (KK κ X p) (KK κ X q) := by
          intro p q c1 c2 c3
          by_cases c4 : q < n1
          · exact a1 p q (by exact ar200 c1 c2) c4
          · exact KeyOrd.kle_trans (g1 p c1) (a2 n1 q (by exact ar21) (by exact ar198 c4) c3)
        have up : ∀ p q, p < n1 + m → n1 + m ≤ q → q < n1 + n2 → κ.kle (KK κ X p) (KK κ X q) := by
          intro p q c1 c2 c3
          by_cases c4 : p < n1
          · exact KeyOrd.kle_trans (a1 p (n1 - 1) (by exact ar181 c4) (by exact ar199 c4)) (gz q c2 c3)
          · exact a2 p q (by exact ar198 c4) (by exact ar197 c1 c2) c3
        have sY : SL κ Y.toList := by
          rw [hfold]
          refine List.pairwise_append.mpr ⟨List.pairwise_append.mpr ⟨?_, hG.1, ?_⟩, ?_, ?_⟩
          · have := SL_ext (X := X) (i := 0) (j := k) (by exact ar196 hn hsz hna) (fun p q _ c2 c3 => a1 p q c2 (by exact ar195 hna c3))
            rw [ext0] at this; exact this
          · intro u hu v hv
            obtain ⟨p, p1, p2, p3⟩ := mem_takeA hu
            obtain ⟨q, q1, q2, q3, q4⟩ := mm v hv
            have := lo p q p1 q1 (by exact ar194 hm q2)
            rw [KK_some p3, KK_some q4] at this; exact this
          · have := SL_ext (X := X) (i := n1 + m) (j := X.size) (Nat.le_refl _) (fun p q c1 c2 c3 => a2 p q (by exact ar193 c1) c2 (by exact ar191 hn hsz c3))
            rw [ext_drop] at this; exact this
          · intro u hu v hv
            obtain ⟨q, q1, q2, q3⟩ := mem_dropA hv
            rcases List.mem_append.mp hu with hu | hu
            · obtain ⟨p, p1, p2, p3⟩ := mem_takeA hu
              have := up p q (by exact ar192 hna p1) q1 (by exact ar191 hn hsz q2)
              rw [KK_some p3, KK_some q3] at this; exact this
            · obtain ⟨p, p1, p2, p3, p4⟩ := mm u hu
              have := up p q p2 q1 (by exact ar191 hn hsz q2)
              rw [KK_some p4, KK_some q3] at this; exact this
        have pYX : Y.Perm X := Array.perm_iff_toList_perm.mpr pY
        refine hq _ ⟨?_, hS.kind, hf, hS.pend, fun k hk => absurd hk (Nat.not_lt_zero _)⟩ ?_
        · show Y.Perm b
          exact pYX.trans (by rw [← hX]; exact hB.perm)
        · intro i j hij hj
          show κ.kle (KK κ Y i) (KK κ Y j)
          exact sY.kk hij (by rw [pYX.size_eq]; exact ar7 hsz hj)
      split
      · refine wpS_bind (wpS_mergeLo hO C.toLoC (by exact ar190 hna zx) (by exact ar183 hm0 zy) ?_ hB.kind fun r st' hS hG => ?_)
        · rw [ext_KK (by exact ar189 hm0) (by exact ar188 hn hsz hm), ext_KK (by exact ar187 hna) (by exact ar186 hn hsz)]
          exact KeyOrd.kle_of_klt (gx k (Nat.le_refl _) (by exact ar185 hna))
        · exact fin r st' hS hG
      · exact wpS_bind (wpS_mergeHi hO C (by exact ar184 zx (by assumption)) (by exact ar183 hm0 zy) hB.kind fun r st' hS hG => fin r st' hS hG)
end
end Mine

set_option autoImplicit false
set_option backward.match.sparseCases true
set_option linter.unusedVariables false
namespace Mine
open PySem PyProof.Rows
section
variable {prog : Program} {w : World} {A : Around} {E : Value → Shared → Prop} {s : Shared} {κ : PyProof.Rows.KeyKind} {b : Array Keyed}

theorem minRun_big {n : Nat} (h1 : 64 ≤ n) (h2 : n < 128) : minRun' n n 0 = n / 2 + n % 2 := by
  obtain ⟨f, hf⟩ : ∃ f, n = f + 1 + 1 := ⟨n - 2, by exact ar262 h1⟩
  have : minRun' (f + 1 + 1) n 0 = n / 2 + n % 2 := by
    rw [minRun'_succ, if_neg (by exact ar261 h1), minRun'_succ, if_pos (by exact ar260 h2)]
    exact ar259
  rwa [← hf] at this

theorem SI.pushP {lo : Nat} {p : Array (Nat × Nat × Nat)} {st : SortSt} (h : SI κ b lo p st) (q : Array (Nat × Nat × Nat)) : SI κ b 0 q (setPending st q) := ⟨h.perm, h.kind, h.failed, rfl, fun k hk => absurd hk (Nat.not_lt_zero _)⟩

/-- one run, or two -/
inductive Runs (κ : PyProof.Rows.KeyKind) (b : Array Keyed) (st : SortSt) : Prop
  | one (pw : Nat) (h : SI κ b 0 #[(0, b.size, pw)] st) (hs : SortedToK κ (arrOf st) b.size)
  | two (n1 n2 pw : Nat) (h : SI κ b 0 #[(0, n1, pw), (n1, n2, 0)] st) (h1 : 1 ≤ n1) (h2 : 1 ≤ n2) (hn : n1 + n2 = b.size) (s1 : Srt κ (arrOf st) 0 n1) (s2 : Srt κ (arrOf st) n1 n2)

theorem wpS_sortRunsBig {st : SortSt} {Q : Unit → SortSt → Prop} (hO : κ.OneLt) (h0 : KeysOf κ b) (hB : SI κ b 0 #[] st) (h64 : 64 ≤ b.size) (h128 : b.size < 128)
    (h : ∀ st', (arrOf st').Perm b → failedOf st' = none → SortedToK κ (arrOf st') b.size → Q () st') : wpS (model prog w) A E s sortRuns' Q st := by
  rw [sortRuns'_eq]
  refine wpS_bind (wpS_get ?_)
  dsimp only
  simp only [hB.size, minRun_big h64 h128]
  refine wpS_bind (wpS_mono (wpS_forRange
    (I := fun x c st' => (x = 0 ∧ c = (none, 0) ∧ SI κ b 0 #[] st') ∨ (x = 1 ∧ ∃ n1, c = (none, n1) ∧ b.size / 2 + b.size % 2 ≤ n1 ∧ n1 ≤ b.size ∧ SI κ b 0 #[(0, n1, 0)] st' ∧ Srt κ (arrOf st') 0 n1) ∨ (2 ≤ x ∧ c = (none, b.size) ∧ Runs κ b st'))
    (Q := fun c st' => c = (none, b.size) ∧ Runs κ b st') ?step ?fin (.inl ⟨rfl, rfl, hB⟩)) ?post)
  case fin =>
    rintro c st' (⟨hx, _, _⟩ | ⟨hx, _⟩ | ⟨_, hc, hD⟩)
    · exact (ar238 h64 hx).elim
    · exact (ar258 h64 hx).elim
    · exact ⟨hc, hD⟩
  case step =>
    rintro x c st' _ hx (⟨rfl, rfl, hB'⟩ | ⟨rfl, n1, rfl, hn1, hn2, hB', hs'⟩ | ⟨hx1, rfl, hD⟩)
    · dsimp only
      rw [if_neg (by exact ar257 hx)]
      simp only [Nat.sub_zero, Nat.zero_add]
      refine wpS_bind (wpS_countL hO h0 (by exact ar256) (by exact ar255 hx) hB' fun m st2 hB2 hm1 hm2 hs2 => ?_)
      dsimp only
      by_cases hlt : m < b.size / 2 + b.size % 2
      · rw [if_pos hlt]
        refine wpS_bind (wpS_lift (wpAny_rule ⟨rfl, ?_⟩))
        simp only [show min b.size (b.size / 2 + b.size % 2) = b.size / 2 + b.size % 2 by exact ar254]
        refine wpS_bind (wpS_binL hO h0 (by exact ar253) (by exact ar252 hlt) hB2 hs2 fun st3 hB3 hs3 => ?_)
        simp only [Bool.not_true, Bool.false_eq_true, if_false]
        refine wpS_bind (wpS_get ?_)
        have hb : (pendingOf st3).back? = none := by rw [hB3.pend]; rfl
        rw [hb]
        dsimp only
        refine wpS_bind (wpS_modify (wpS_pure (.inr (.inl ⟨by simp, _, rfl, Nat.le_refl _, by exact ar251, ?_, hs3⟩))))
        have := hB3.pushP #[(0, b.size / 2 + b.size % 2, 0)]
        rw [hB3.pend]; exact this
      · rw [if_neg hlt]
        refine wpS_bind (wpS_get ?_)
        have hb : (pendingOf st2).back? = none := by rw [hB2.pend]; rfl
        rw [hb]
        dsimp only
        refine wpS_bind (wpS_modify (wpS_pure (.inr (.inl ⟨by simp, _, rfl, by exact ar250 hlt, hm2, ?_, hs2⟩))))
        have := hB2.pushP #[(0, m, 0)]
        rw [hB2.pend]; exact this
    · dsimp only
      by_cases hall : n1 ≥ b.size
      · rw [if_pos hall]
        have : n1 = b.size := by exact ar16 hn2 hall
        subst this
        refine wpS_pure ⟨rfl, .one 0 hB' fun i j hij hj => ?_⟩
        have := hs' i j hij hj
        rwa [Nat.zero_add, Nat.zero_add] at this
      · rw [if_neg hall]
        have hB1 : SI κ (arrOf st') n1 #[(0, n1, 0)] st' := ⟨Array.Perm.refl _, hB'.kind, hB'.failed, hB'.pend, fun _ _ => rfl⟩
        have h0' : KeysOf κ (arrOf st') := fun p hp => h0 p ((Array.perm_iff_toList_perm.mp hB'.perm).mem_iff.mp hp)
        have hsz' := hB'.size
        have close : ∀ st3, SI κ (arrOf st') n1 #[(0, n1, 0)] st3 → Srt κ (arrOf st3) n1 (b.size - n1) → ∀ pw, Runs κ b (setPending st3 #[(0, n1, pw), (n1, b.size - n1, 0)]) := by
          intro st3 h3 s3 pw
          refine .two n1 (b.size - n1) pw ⟨h3.perm.trans hB'.perm, h3.kind, h3.failed, rfl, fun k hk => absurd hk (Nat.not_lt_zero _)⟩ (by exact ar249 hx hn1) (by exact ar245 hall) (by exact ar248 hall) ?_ s3
          intro i j hij hj
          show κ.kle (KK κ (arrOf st3) (0 + i)) (KK κ (arrOf st3) (0 + j))
          rw [h3.ahead _ (by exact ar247 hij hj), h3.ahead _ (by exact ar246 hj)]
          exact hs' i j hij hj
        have tail : ∀ (st3 : SortSt), SI κ (arrOf st') n1 #[(0, n1, 0)] st3 → Srt κ (arrOf st3) n1 (b.size - n1) → (pendingOf st3).back? = some (0, n1, 0) := fun st3 h3 _ => by rw [h3.pend]; rfl
        refine wpS_bind (wpS_countL hO h0' (by exact ar243 hall hsz') (by exact ar245 hall) hB1 fun m st2 hB2 hm1 hm2 hs2 => ?_)
        dsimp only
        by_cases hlt : m < b.size / 2 + b.size % 2
        · rw [if_pos hlt]
          refine wpS_bind (wpS_lift (wpAny_rule ⟨rfl, ?_⟩))
          simp only [show min (b.size - n1) (b.size / 2 + b.size % 2) = b.size - n1 by exact ar244 hn1]
          refine wpS_bind (wpS_binL hO h0' (by exact ar243 hall hsz') (by assumption) hB2 hs2 fun st3 hB3 hs3 => ?_)
          simp only [Bool.not_true, Bool.false_eq_true, if_false]
          refine wpS_bind (wpS_get ?_)
          rw [tail st3 hB3 hs3]
          dsimp only
          refine wpS_bind (wpS_mono (wpS_forRange (I := fun _ c st4 => st4 = st3 ∧ c = (none, ())) (Q := fun c st4 => st4 = st3 ∧ c = (none, ())) ?_ (fun _ _ hh => hh) ⟨rfl, rfl⟩) ?_)
          · rintro x c st4 _ _ ⟨rfl, rfl⟩
            refine wpS_bind (wpS_get ?_)
            rw [if_neg (by rw [hB3.pend]; simp)]
            exact wpS_pure ⟨rfl, rfl⟩
          · rintro c st4 ⟨rfl, rfl⟩
            dsimp only
            refine wpS_bind (wpS_modify (wpS_bind (wpS_modify (wpS_pure (.inr (.inr ⟨by exact ar240, by rw [show n1 + (b.size - n1) = b.size by exact ar242 hm1 hm2], ?_⟩))))))
            have := close _ hB3 hs3 (power' b.size (2 * 0 + n1) (2 * 0 + n1 + n1 + (b.size - n1)) b.size)
            simp only [hB3.pend]
            exact this
        · rw [if_neg hlt]
          have hm : m = b.size - n1 := by exact ar241 hn1 hm2 hlt
          subst hm
          refine wpS_bind (wpS_get ?_)
          rw [tail st2 hB2 hs2]
          dsimp only
          refine wpS_bind (wpS_mono (wpS_forRange (I := fun _ c st4 => st4 = st2 ∧ c = (none, ())) (Q := fun c st4 => st4 = st2 ∧ c = (none, ())) ?_ (fun _ _ hh => hh) ⟨rfl, rfl⟩) ?_)
          · rintro x c st4 _ _ ⟨rfl, rfl⟩
            refine wpS_bind (wpS_get ?_)
            rw [if_neg (by rw [hB2.pend]; simp)]
            exact wpS_pure ⟨rfl, rfl⟩
          · rintro c st4 ⟨rfl, rfl⟩
            dsimp only
            refine wpS_bind (wpS_modify (wpS_bind (wpS_modify (wpS_pure (.inr (.inr ⟨by exact ar240, by rw [show n1 + (b.size - n1) = b.size by exact ar239 hm1], ?_⟩))))))
            have := close _ hB2 hs2 (power' b.size (2 * 0 + n1) (2 * 0 + n1 + n1 + (b.size - n1)) b.size)
            simp only [hB2.pend]
            exact this
    · dsimp only
      rw [if_pos (Nat.le_refl _)]
      exact wpS_pure ⟨rfl, hD⟩
  case post =>
    rintro c st' ⟨rfl, hD⟩
    dsimp only
    refine wpS_bind (wpS_mono (wpS_forRange (I := fun x c st'' => c = (none, ()) ∧ ((x = 0 ∧ Runs κ b st'') ∨ ∃ pw, SI κ b 0 #[(0, b.size, pw)] st'' ∧ SortedToK κ (arrOf st'') b.size))
      (Q := fun c st'' => c = (none, ()) ∧ ∃ pw, SI κ b 0 #[(0, b.size, pw)] st'' ∧ SortedToK κ (arrOf st'') b.size) ?step2 ?fin2 ⟨rfl, .inl ⟨rfl, hD⟩⟩) ?post2)
    case post2 =>
      rintro c st'' ⟨rfl, pw, h1, h2⟩
      exact wpS_pure (h _ h1.perm h1.failed h2)
    case fin2 =>
      rintro c st'' ⟨hc, ⟨hx, _⟩ | hd⟩
      · exact (ar238 h64 hx).elim
      · exact ⟨hc, hd⟩
    case step2 =>
      have one : ∀ (st'' : SortSt) (pw : Nat), SI κ b 0 #[(0, b.size, pw)] st'' → (pendingOf st'').size ≤ 1 := fun st'' pw h1 => by rw [h1.pend]; simp
      rintro x c st'' _ hx ⟨rfl, ⟨rfl, hR⟩ | ⟨pw, h1, h2⟩⟩
      · cases hR with
        | one pw h1 h2 =>
          refine wpS_bind (wpS_get ?_)
          rw [if_pos (one _ _ h1)]
          exact wpS_pure ⟨rfl, pw, h1, h2⟩
        | two n1 n2 pw h1 a1 a2 a3 s1 s2 =>
          refine wpS_bind (wpS_get ?_)
          rw [if_neg (by rw [h1.pend]; simp)]
          have sz : (pendingOf st'').size = 2 := by rw [h1.pend]; rfl
          simp only [sz, Nat.sub_self, gt_iff_lt, Nat.lt_irrefl, if_false, Option.any_none, Bool.false_eq_true]
          refine wpS_bind (wpS_mergeAt hO h0 h1 a1 a2 a3 s1 s2 fun st3 h3 h4 => ?_)
          simp only [Bool.not_true, Bool.false_eq_true, if_false]
          rw [a3] at h3
          exact wpS_pure ⟨rfl, .inr ⟨pw, h3, h4⟩⟩
      · refine wpS_bind (wpS_get ?_)
        rw [if_pos (one _ _ h1)]
        exact wpS_pure ⟨rfl, pw, h1, h2⟩

/-- the sort of up to 127 things -/
theorem list_sort_big (hO : κ.OneLt) {a : Addr} {vs : List Value} {n : Nat} {P : PySem.Fin → Shared → Prop} (ho : s.heap.get? a = some (seqObj "list" vs.toArray n))
    (h0 : KeysOf κ (PyProof.Rows.pairsOf vs)) (hkk : ∀ v₁ v₂ rest, vs = v₁ :: v₂ :: rest → keyKind' (v₁ :: v₂ :: rest).toArray = pure oneType') (h64 : 64 ≤ vs.length) (h128 : vs.length < 128)
    (h : ∀ st' : SortSt, (arrOf st').Perm (PyProof.Rows.pairsOf vs) → SortedToK κ (arrOf st') (PyProof.Rows.pairsOf vs).size → P (.done (.ret .none)) { s with heap := sortedHeap s.heap a vs ((arrOf st').map (·.2)) }) :
    wpAny (model prog w) A (Builtin.«list.sort» ⟨[.ref a], []⟩) P E s := by
  rw [list_sort_plain]
  have ha : a < s.heap.objs.size := Heap.lt_size ho
  refine wpAny_bind (listItems_at ho rfl ?_)
  refine wpAny_bind (listUpdate_at ho rfl ?_)
  obtain ⟨e1, ho1⟩ : ∃ e1, (s.heap.update a (Obj.mapSeq fun _ => #[])).get? a = some (seqObj "list" #[] e1) := ⟨_, get?_update_seq ho (fun _ => #[])⟩
  refine wpAny_bind (seqEpoch_at ho1 rfl ?_)
  refine wpAny_bind (wpAny_newTuple ?_)
  refine wpAny_bind (wpAny_newList ?_)
  refine wpAny_holding ?_
  have ho6 : (((s.heap.update a (Obj.mapSeq fun _ => #[])).push (seqObj "tuple" vs.toArray 0)).push (seqObj "list" #[] 0)).get? a = some (seqObj "list" #[] e1) := by
    rw [Heap.get?_push_ne _ _ _ (by rw [size_push', Heap.size_update]; exact Nat.ne_of_lt (Nat.lt_succ_of_lt ha)), Heap.get?_push_ne _ _ _ (by rw [Heap.size_update]; exact Nat.ne_of_lt ha)]
    exact ho1
  show wpAny (model prog w) A _ P E { s with heap := ((s.heap.update a (Obj.mapSeq fun _ => #[])).push (seqObj "tuple" vs.toArray 0)).push (seqObj "list" #[] 0) }
  dsimp only
  have hsz : vs.toArray.size = vs.length := by simp
  rw [if_neg (by exact ar237 h64 hsz), if_neg (by exact ar237 h64 hsz)]
  obtain ⟨v₁, v₂, rest, rfl⟩ : ∃ v₁ v₂ rest, vs = v₁ :: v₂ :: rest := by
    match vs, h64 with
    | v₁ :: v₂ :: rest, _ => exact ⟨v₁, v₂, rest, rfl⟩
  rw [hkk _ _ _ rfl]
  refine wpAny_bind (wpAny_pure ?_)
  refine wpAny_bind (wpAny_mono (wpS_sortRunsBig (κ := κ) hO (b := PyProof.Rows.pairsOf (v₁ :: v₂ :: rest)) (st := SortSt.mk' oneType' ((v₁ :: v₂ :: rest).toArray.zip (v₁ :: v₂ :: rest).toArray) #[] 7 none)
    (Q := fun _ st' => (arrOf st').Perm (PyProof.Rows.pairsOf (v₁ :: v₂ :: rest)) ∧ failedOf st' = none ∧ SortedToK κ (arrOf st') (PyProof.Rows.pairsOf (v₁ :: v₂ :: rest)).size)
    h0 ⟨Array.Perm.refl _, rfl, rfl, rfl, fun _ _ => rfl⟩ (by rw [pairsOf_size]; exact h64) (by rw [pairsOf_size]; exact h128) fun st' a1 a2 a3 => ⟨a1, a2, a3⟩) ?_ fun _ _ e => e)
  rintro ⟨⟨⟩, st'⟩ s' ⟨rfl, hp, hf, hs⟩
  dsimp only
  refine wpAny_bind (seqEpoch_at ho6 rfl ?_)
  refine wpAny_bind (listUpdate_at ho6 rfl ?_ (hsz2 := by refine Nat.le_trans (Nat.le_of_eq ((Array.size_map ..).trans (hp.size_eq.trans (pairsOf_size _)))) ?_; rw [sizeLine_eq]; exact ar236 h128))
  rw [hf]
  simp only [bne_self_eq_false, Bool.false_eq_true, if_false]
  exact wpAny_pure (h st' hp hs)
end
end Mine

set_option autoImplicit false
set_option backward.match.sparseCases true
namespace Mine
open PySem PyProof.Rows PySem.SeqAt

variable {C : Fix} {σ : AH} {g g' : Cfg} {h h' : Heap} {s s' : Shared} {own : Addr → Prop} {A : Around} {d : Nat}
  {Q : Value → Shared → Prop} {E : Value → Shared → Prop}

theorem PostO.valAt {v : PV} {x : Value} (hp : PostO C σ g s (some (.v v)) Q) (R : C.Rel σ g s.heap) {h' : Heap} {tk : Nat} (hk : ∀ b o, s.heap.get? b = some o → h'.get? b = some o) (hv : C.VR g h' v x) : Q x { s with heap := h', toks := tk } :=
  hp g _ x (Ext.all hk) (R.kept (.of_all hk)) hv

/-! ### sorting -/
theorem sortedS_pair : ∀ (l : List Str), sortedS l = true → l.Pairwise fun a b => strLt b a = false := by
  have key : ∀ (l : List Str) (p : Str), risingS p l = true → (p :: l).Pairwise fun a b => strLt b a = false := by
    intro l
    induction l with
    | nil => intro p _; simp
    | cons x r ih =>
      intro p hp
      have hp' : (!Spec.ltCps x.cps.toList p.cps.toList && risingS x r) = true := hp
      obtain ⟨h1, h2⟩ := Bool.and_eq_true_iff.mp hp'
      have h3 : strLt x p = false := by
        rw [ltCps_eq] at h1
        simpa [strLt] using h1
      have h4 := ih x h2
      refine List.pairwise_cons.mpr ⟨fun y hy => ?_, h4⟩
      rcases List.mem_cons.mp hy with rfl | hy
      · exact h3
      · have h5 := (List.pairwise_cons.mp h4).1 y hy
        have := strLe_trans (a := p) (b := x) (c := y) (by simp [h3]) (by simp [h5])
        simpa using this
  intro l hl
  cases l with
  | nil => exact .nil
  | cons x r => exact key r x hl
/-- texts of values -/
theorem vrs_strs : ∀ {l : List PV} {r : List Value} {ss : List Str}, C.VRs g h l r → strsOf l = some ss → StrsAre r ss := by
  intro l
  induction l with
  | nil => intro r ss hv hs; cases hv; cases hs; exact .nil
  | cons v l ih =>
    intro r ss hv hs
    cases hv with
    | cons ha hl =>
      obtain ⟨x, h0, hs⟩ := bind_elim (fun o => o = some ss) (fun q => nomatch q) hs
      obtain ⟨ss', h1, rfl⟩ := Option.map_eq_some_iff.mp hs
      obtain ⟨t, rfl⟩ := str_vr h0 ha
      exact .cons x t (ih hl h1)
theorem strs_vrs : ∀ {r : List Value} {ss : List Str}, StrsAre r ss → C.VRs g h (ss.map .str) r := by
  intro r ss hs
  induction hs with
  | nil => exact .nil
  | cons x t _ ih => exact .cons (.str x t) ih
theorem strsOf_len : ∀ {l : List PV} {ss : List Str}, strsOf l = some ss → ss.length = l.length := by
  intro l
  induction l with
  | nil => intro ss h; cases h; rfl
  | cons v l ih =>
    intro ss h
    obtain ⟨x, h0, hs⟩ := bind_elim (fun o => o = some ss) (fun q => nomatch q) h
    obtain ⟨ss', h1, rfl⟩ := Option.map_eq_some_iff.mp hs
    exact congrArg Nat.succ (ih h1)


theorem strsOf_keys (r : List (Str × PV)) : strsOf (r.map fun kv => PV.str kv.1) = some (r.map (·.1)) := by
  induction r with
  | nil => rfl
  | cons p r ih => exact congrArg (Option.map (p.1 :: ·)) ih

/-- sort a list of texts -/
theorem list_sort_strs {a : Addr} {vs : List Value} {ss : List Str} {n : Nat} {P : PySem.Fin → Shared → Prop} (ho : s.heap.get? a = some (seqObj "list" vs.toArray n)) (hS : StrsAre vs ss) (h64 : vs.length < sortMost)
    (h : ∀ out, StrsAre out.toList (sortS ss) → P (.done (.ret .none)) { s with heap := sortedHeap s.heap a vs out }) :
    wpAny (model C.prog C.w) A (Builtin.«list.sort» ⟨[.ref a], []⟩) P E s := by
  have fin : ∀ st' : SortSt, (arrOf st').Perm (PyProof.Rows.pairsOf vs) → SortedToK strKind (arrOf st') (PyProof.Rows.pairsOf vs).size → P (.done (.ret .none)) { s with heap := sortedHeap s.heap a vs ((arrOf st').map (·.2)) } := by
    intro st' hp hs
    obtain ⟨ss', h1, h2, h3⟩ := sorted_out_str hS hp hs
    refine h _ ?_
    rw [sortS_unique h2 (sortedS_pair ss' h3)] at h1
    exact h1
  have h81 : vs.length < 81 := h64
  rcases Nat.lt_or_ge vs.length 64 with hl | hl
  · exact list_sort_treeK strKind_oneLt ho hS.keysOf (fun v₁ v₂ rest e => keyKind_strs (by rw [← e]; exact hS)) hl fin
  · exact list_sort_big strKind_oneLt ho hS.keysOf (fun v₁ v₂ rest e => keyKind_strs (by rw [← e]; exact hS)) hl (by omega) fin

theorem sorted_tail (R : C.Rel σ g s.heap) {x : Value} {ss : List Str} (hl : ss.length < sortMost)
    (hc : ∀ (R' : List Value → Shared → Prop), (∀ (h' : Heap) (tk : Nat) (vs : List Value), (∀ b o, s.heap.get? b = some o → h'.get? b = some o) → StrsAre vs ss → R' vs { s with heap := h', toks := tk }) → wpAny (model C.prog C.w) A.in1 (collect x) R' E s)
    (hp : PostO C σ g s (some (.f (.list ((sortS ss).map .str)))) Q) :
    wpAny (model C.prog C.w) A (call (.builtin "sorted") [x]) Q E s := by
  refine Calls.call_function_entry kind_sorted plain_sorted entry_sorted (args_sorted1 _) ?_
  unfold Builtin.«sorted»
  refine wpAny_bind (m := checkCount "sorted" 1 1 _) (wpAny_pure ?_)
  refine wpAny_bind (hc _ fun h' tk vs hk hS => ?_)
  have hlen : vs.length = ss.length := by rw [← hS.strs, List.length_map]
  have h64 : sortMost ≤ 100 := by decide
  refine wpAny_bind (wpAny_newList ?_ (by rw [hlen, sizeLine_eq]; omega))
  have hoL : (h'.push (seqObj "list" vs.toArray 0)).get? h'.objs.size = some (seqObj "list" vs.toArray 0) := Heap.get?_push_size _ rfl
  have hnone : s.heap.get? h'.objs.size = none := by
    cases hq : s.heap.get? h'.objs.size with
    | none => rfl
    | some o => exact absurd (Heap.lt_size (hk _ _ hq)) (Nat.lt_irrefl _)
  refine wpAny_bind (wpAny_holding (wpAny_call_entry slot_list_sort ⟨_, hoL, rfl⟩ entry_list_sort (list_sort_strs (s := { s with heap := h'.push (seqObj "list" vs.toArray 0), toks := tk }) hoL hS (by omega) fun out a1 => ⟨_, rfl, ?_⟩) (args_list_sort _)))
  have hold : ∀ b o, s.heap.get? b = some o → (sortedHeap (h'.push (seqObj "list" vs.toArray 0)) h'.objs.size vs out).get? b = some o := fun b o e => by
    have h1 := hk b o e
    have h2 := Heap.lt_size h1
    rw [sortedHeap_old (Nat.ne_of_lt h2) (by rw [Heap.size_push]; exact Nat.lt_succ_of_lt h2)]
    exact Heap.get?_push_of_some _ h1
  obtain ⟨e, he⟩ := sortedHeap_at (out := out) hoL
  exact wpAny_pure ⟨_, rfl, hp.madeAt (tk := tk) R hold hnone ⟨out, ⟨e, he⟩, strs_vrs a1⟩⟩

theorem sorted_sound (hA : AOK A d) (R : C.Rel σ g s.heap) {v : PV} {x : Value} {ss : List Str} (hv : C.VR g s.heap v x) (he : sortArg σ v = some ss) (hl : ss.length < sortMost)
    (hp : PostO C σ g s (some (.f (.list ((sortS ss).map .str)))) Q) :
    wpAny (model C.prog C.w) A (call (.builtin "sorted") [x]) Q E s := by
  have h64 : sortMost ≤ 100 := by decide
  have list : ∀ {a : Addr} {vs : Array Value} {l : List PV}, strsOf l = some ss → s.heap.IsList a vs → C.VRs g s.heap l vs.toList → wpAny (model C.prog C.w) A (call (.builtin "sorted") [.ref a]) Q E s := by
    intro a vs l hs h1 h2
    have hlen := strsOf_len hs
    have h3 := h2.size
    refine sorted_tail R hl (fun R' hR' => ?_) hp
    refine collect_list (vs := vs.toList) (by simpa using h1) (hR' _ s.toks _ (fun b o e => ?_) (vrs_strs h2 hs)) (by rw [Array.length_toList, h3, sizeLine_eq]; omega)
    exact (Heap.get?_update_other _ _ (Ne.symm (Nat.ne_of_lt (Heap.lt_size e)))).trans (Heap.get?_push_of_some _ e)
  have dict : ∀ {a : Addr} {kvs : List (Str × Value)} {r : List (Str × PV)}, (r.map (·.1)) = ss → a ≠ sysModules → s.heap.DictOf (strKind C.prog C.w) a kvs → C.VRd g s.heap r kvs → wpAny (model C.prog C.w) A (call (.builtin "sorted") [.ref a]) Q E s := by
    rintro a kvs r rfl hm h1 hr
    obtain ⟨ep, hd⟩ := h1.dictAt
    have h4 : kvs.length = (r.map fun kv => PV.str kv.1).length := by rw [List.length_map, hr.length]
    have h5 : (r.map fun kv => PV.str kv.1).length = (r.map (·.1)).length := by simp
    refine sorted_tail R hl (fun R' hR' => ?_) hp
    refine PySem.W.kdu_collect (PySem.W.kdl_dict (ep := ep) (kvs := kvs) (by simpa using hm)) hA.hand hd (by rw [h4, h5, sizeLine_eq]; omega) fun h' tk acc hk hi => hR' _ _ _ hk ?_
    rw [h4] at hi
    refine vrs_strs (C := C) (g := g) (h := s.heap) (vrs_of_items hi fun i z u h1 h2 => by obtain ⟨k, y, h3, h5⟩ := h1; exact vrd_keys hr h3 h5 h2) ?_
    exact strsOf_keys r
  have hd := deref_sound R hv
  have he : sortD (deref σ v) = some ss := he
  generalize deref σ v = w at hd he
  cases w with
  | lst l => obtain ⟨a, vs, rfl, hl', hr⟩ := hd; exact list he (isList_of hl') hr
  | dct l => obtain ⟨a, kvs, rfl, hm, hl', hr⟩ := hd; exact dict (Option.some.inj he) hm hl' hr
  | _ => cases he
end Mine

set_option autoImplicit false
set_option backward.match.sparseCases true
set_option linter.unusedVariables false
namespace Mine
open PySem PyProof.Rows PySem.SeqAt

variable {C : Fix} {σ : AH} {g g' : Cfg} {h h' : Heap} {s s' : Shared} {own : Addr → Prop} {A : Around} {d : Nat}
  {Q : Value → Shared → Prop} {E : Value → Shared → Prop}

/-! ### dict from pairs -/
theorem miss_tuple_keys : typeLookup (.type "tuple") "keys" = pure none := am_miss_of_fast (by decide +kernel)

set_option maxRecDepth 8000 in
theorem getAttrBy_miss_tuple {a : Addr} {xs : Array Value} {tk0 : Tok} {Q : Value → Shared → Prop} (hx : IsTupX s.heap a xs) (hA : A.handled = none)
    (hE : ∀ h' tk e, Heap.NewExcOf s.heap h' e "AttributeError" → E (.ref e) { s with heap := h', toks := tk }) :
    wpAny (model C.prog C.w) A (getAttrBy (.ref a) (.str "keys" tk0) false) Q E s := by
  obtain ⟨k, hx⟩ := hx
  obtain ⟨hp, g, d, tk, os⟩ := s
  have hT : ∀ tk', (⟨hp, g, d, tk', os⟩ : Shared).TypeIs (.ref a) "tuple" := fun _ => ⟨_, hx, rfl⟩
  have f1 := sub_AttributeError
  have f3 := PySem.F.slot_tuple_getattribute.lookup
  have f4 := PySem.F.slot_tuple_getattribute.bind (.ref a)
  have f5 := am_tuple_getattr_none
  unfold getAttrBy
  repeat (any_goals (first | assumption | exact hT _ | ((with_reducible show wpAny _ _ (call (Value.builtin "tuple.__getattribute__") _ _) _ _ _); refine call_meets PySem.F.slot_tuple_getattribute (hT _) am_entry_tuple_getattribute (PySem.F.args_tuple_getattribute_2 _ _) (meets_getattribute_miss_tuple a xs k #[] "keys" _ miss_tuple_keys (by decide +kernel) (by size_fits)) ⟨hx, hA, fun h' tk' e hx' => ?_⟩) | wp_step))
  obtain ⟨t', u', he⟩ := hx'.there
  show wpAny _ _ (getattributeRaised _ _ _ _ _ _ _) _ _ _
  unfold getattributeRaised
  repeat (any_goals (first | assumption | wp_step))
  exact hE _ _ _ hx'.of

theorem getAttr?_miss_tuple {a : Addr} {xs : Array Value} {Q : Option Value → Shared → Prop} (hx : IsTupX s.heap a xs) (hA : A.handled = none)
    (hq : ∀ h' tk, (∀ b o, s.heap.get? b = some o → h'.get? b = some o) → Q none { s with heap := h', toks := tk }) :
    wpAny (model C.prog C.w) A (getAttr? (.ref a) "keys") Q E s := by
  unfold getAttr?
  refine wpAny_bind (wpAny_mkText ?_)
  unfold getAttrBy?
  refine wpAny_bind (wpAny_attempt (getAttrBy_miss_tuple (s := { s with toks := s.toks + 1 }) hx hA fun h' tk e he => ?_))
  obtain ⟨o, fs, h1, h2, h3, h4⟩ := he.there
  refine wpAny_bind (wpAny_isInstance (T := "AttributeError") (b := true) ⟨o, h1, h2⟩ sub_AttributeError ?_)
  exact wpAny_pure (hq h' tk he.keeps)

theorem entry_dict_update_loop : entryFor table "dict.update.loop" = some Builtin.«dict.update.loop» := entryFor_of_tree (by kernel_rfl)
theorem plain_dict_update_loop : plainId "dict.update.loop" = true := by decide +kernel

theorem pairOf_eq {v : PV} {p : Str × PV} (h : pairOf v = some p) : v = .tup [.str p.1, p.2] := by
  unfold pairOf at h
  split at h
  · cases h; rfl
  · cases h
theorem pairsOf_at {l : List PV} {r : List (Str × PV)} (hp : pairsOf l = some r) : l = r.map fun kv => .tup [.str kv.1, kv.2] := by
  induction l generalizing r with
  | nil => cases hp; rfl
  | cons v l ih =>
    obtain ⟨x, h0, hs⟩ := bind_elim (fun o => o = some r) (fun q => nomatch q) hp
    obtain ⟨ss', h1, rfl⟩ := Option.map_eq_some_iff.mp hs
    rw [pairOf_eq h0, ih h1]; rfl

noncomputable def foldP (d : List (Str × PV)) (l : List (Str × PV)) : List (Str × PV) := l.foldl (fun d kv => dput d kv.1 kv.2) d
theorem dput_len {α : Type} (d : List (Str × α)) (k : Str) (v : α) : (dput d k v).length ≤ d.length + 1 := by
  unfold dput
  split
  · simp
  · simp
theorem foldP_len (l : List (Str × PV)) : ∀ d, (foldP d l).length ≤ d.length + l.length := by
  induction l with
  | nil => intro d; simp [foldP]
  | cons p l ih =>
    intro d
    have := ih (dput d p.1 p.2)
    have h2 := dput_len d p.1 p.2
    show (foldP (dput d p.1 p.2) l).length ≤ _
    simp only [List.length_cons]; lia

theorem dict_loop {I D : Addr} {fp : List Addr} {n : Nat} {P : Nat → Value → Prop} {St : Nat → Heap → Prop} {s₀ : Shared} {R' : Result → Shared → Prop} {r : List (Str × PV)}
    (W : Walks C.prog C.w A.in1 I fp [I] n P St) (hD : D ∉ fp) (hI : s₀.heap.get? I = none) (hDn : s₀.heap.get? D = none) (hID : I ≠ D) (hn : r.length = n) (hb : n ≤ 1000000)
    (hP : ∀ i z u, P i z → r[i]? = some u → C.VR g s₀.heap (.tup [.str u.1, u.2]) z)
    (hR : ∀ h' tk kvs, (∀ b o, s₀.heap.get? b = some o → h'.get? b = some o) → h'.DictOf (strKind C.prog C.w) D kvs → C.VRd g s₀.heap (foldP [] r) kvs → R' (.ok (.ret .none)) { s₀ with heap := h', toks := tk }) :
    ∀ (k i : Nat) (h : Heap) (tk : Nat) (kvs : List (Str × Value)) (dl : List (Str × PV)), n - i = k → i ≤ n → St i h → (∀ b o, s₀.heap.get? b = some o → h.get? b = some o) → h.DictOf (strKind C.prog C.w) D kvs → C.VRd g s₀.heap dl kvs →
      dl.length ≤ i → foldP dl (r.drop i) = foldP [] r → ∀ t0, codeAny (model C.prog C.w) A (.builtin "dict.update.loop" ⟨[.ref D, .ref I, .int i t0, .none], []⟩) R' { s₀ with heap := h, toks := tk } := by
  intro k
  induction k with
  | zero =>
    intro i h tk kvs dl hk hi hst hkeep hdo hvd hlen hf t0
    have hin : i = n := by lia
    subst hin
    refine codeAny_builtin entry_dict_update_loop ?_
    rw [Around.under_plainId plain_dict_update_loop _]
    show wpAny _ A.in1 (pyNext (.ref I) >>= _) _ _ _
    refine wpAny_bind (W.done _ _ _ hst fun h' tk' hk' => ?_)
    show wpAny _ A.in1 (Builtin.Dict.addKeywords D [] >>= fun _ => ret Value.none) _ _ _
    refine wpAny_bind (wpAny_pure ?_)
    have hd : r.drop i = [] := List.drop_eq_nil_of_le (by lia)
    rw [hd] at hf
    refine wpAny_pure (hR h' tk' kvs (fun b o e => hk' b o (fun hm => ?_) (hkeep b o e)) ?_ (by rw [← hf]; exact hvd))
    · rw [List.mem_singleton.mp hm, hI] at e; cases e
    · obtain ⟨o, es, ep, ho, rest⟩ := hdo
      exact ⟨o, es, ep, hk' D o (fun hm => hID (List.mem_singleton.mp hm).symm) ho, rest⟩
  | succ k ih =>
    intro i h tk kvs dl hk hi hst hkeep hdo hvd hlen hf t0
    have hlt : i < n := by lia
    obtain ⟨u, hu⟩ : ∃ u, r[i]? = some u := ⟨r[i]'(by lia), by simp⟩
    refine codeAny_builtin entry_dict_update_loop ?_
    rw [Around.under_plainId plain_dict_update_loop _]
    show wpAny _ A.in1 (pyNext (.ref I) >>= _) _ _ _
    refine wpAny_bind (W.item i _ _ _ hlt hst fun z h' tk' hz hst' hk' => ?_)
    have hkeep' : ∀ b o, s₀.heap.get? b = some o → h'.get? b = some o := fun b o e => hk' b o (fun hm => by rw [List.mem_singleton.mp hm, hI] at e; cases e) (hkeep b o e)
    have hdo' : h'.DictOf (strKind C.prog C.w) D kvs := by
      obtain ⟨o, es, ep, ho, rest⟩ := hdo
      exact ⟨o, es, ep, hk' D o (fun hm => hID (List.mem_singleton.mp hm).symm) ho, rest⟩
    have hv := hP i z u hz hu
    cases hv with
    | @tup _ p vs h0 hl hr =>
      have hvs : ∃ x t, vs = #[.str u.1 t, x] ∧ C.VR g s₀.heap u.2 x := by
        obtain ⟨ws⟩ := vs
        cases hr with | cons a b => cases a; cases b with | cons c e => cases e; exact ⟨_, _, rfl, c⟩
      obtain ⟨x, t, rfl, hx⟩ := hvs
      obtain ⟨n', hl'⟩ := hl
      have hl'' := hkeep' _ _ hl'
      refine wpAny_bind (wpAny_holding ?_)
      show wpAny _ A.in1 (Sem.tryCatch (Builtin.Dict.pairItems (.ref p)) _ >>= _) _ _ _
      refine wpAny_bind (wpAny_tryCatch ?_)
      unfold Builtin.Dict.pairItems
      refine wpAny_bind (wpAny_typeOf (T := "tuple") ⟨_, hl'', rfl⟩ ?_)
      rw [if_pos (by decide)]
      refine wpAny_bind ?_
      unfold seqItems?
      refine wpAny_bind (wpAny_load hl'' (wpAny_pure (wpAny_pure ?_)))
      show wpAny _ A.in1 (holding _ (dictSet D (.str u.1 t) x)) _ _ _
      refine wpAny_holding (wpAny_dictSet_pairs (strKind_is C.prog C.w u.1 t) hdo' (fun h2 hdo2 hsb => ?_) (by rw [← hvd.length, sizeLine_eq]; lia))
      refine wpAny_pure ⟨plainId_quiet plain_dict_update_loop _, ?_⟩
      have hdrop : r.drop i = u :: r.drop (i + 1) := by
        have := List.getElem?_eq_some_iff.mp hu
        obtain ⟨h1, h2⟩ := this
        rw [← h2]; exact List.drop_eq_getElem_cons h1
      refine ih (i + 1) h2 _ (stored kvs u.1 x) (dput dl u.1 u.2) (by lia) (by lia) (W.frame _ _ _ hst' fun b hb o e => ?_) (fun b o e => ?_) hdo2 (hvd.put hx) (Nat.le_trans (dput_len ..) (by lia)) ?_ _
      · rw [hsb.2 b (fun q => hD (q ▸ hb))]; exact e
      · rw [hsb.2 b (fun q => by rw [q, hDn] at e; cases e)]; exact hkeep' b o e
      · rw [← hf, hdrop]; rfl

theorem VR_back (R : C.Rel σ g h) (hk : ∀ b o, h.get? b = some o → h'.get? b = some o) {v : PV} {x : Value} (hv : C.VR g h' v x) : C.VR g h v x :=
  hv.mono (List.prefix_refl _) (fun _ q => q) fun a o ha e => by
    obtain ⟨o', ho⟩ := Option.isSome_iff_exists.mp (R.rel.live a ha)
    have := hk a o' ho
    rw [e] at this; cases this; exact ho

theorem dict_pairs (hA : AOK A d) (R : C.Rel σ g s.heap) {l : List PV} {r : List (Str × PV)} {x : Value} (hv : C.VR g s.heap (.tup l) x) (hr : pairsOf l = some r) (hb : r.length ≤ 1000000) (hp : PostO C σ g s (some (.f (.dict (dictOfPairs r)))) Q) :
    wpAny (model C.prog C.w) A (call (.type "dict") [x]) Q E s := by
  have hv0 := hv
  cases hv with
  | @tup _ a vs h0 hl hvs =>
    refine callType_codes (Q₁ := fun obj s₁ => obj = .ref s.heap.objs.size ∧ s₁ = { s with heap := s.heap.push { cls := .type "dict", data := .dict #[] } }) PySem.F.kt_called_dict (PySem.F.kt_typeCall_dict_1 _) PySem.F.entry_dict_init (kt_code_dict_new _ ⟨rfl, rfl⟩) ?_
    rintro obj s₁ ⟨rfl, rfl⟩
    have hnew : (s.heap.push { cls := .type "dict", data := .dict #[] }).DictOf (strKind C.prog C.w) s.heap.objs.size [] := Heap.DictOf.new s.heap
    refine ⟨hnew.typeIs, PySem.F.args_dict_init_2 _ _, ?_⟩
    unfold Builtin.«dict.__init__»
    refine wpAny_bind ?_
    unfold Builtin.Dict.selfAndRest
    refine wpAny_bind (wpAny_notOrdered_dict hnew.typeIs ?_)
    show wpAny _ _ (pure (s.heap.objs.size, [Value.ref a])) _ _ _
    refine wpAny_pure ?_
    show wpAny _ _ (Builtin.Dict.updateFrom "dict.__init__" s.heap.objs.size (.ref a) [] .none) _ _ _
    unfold Builtin.Dict.updateFrom
    have hl1 : IsTupX (s.heap.push { cls := .type "dict", data := .dict #[] }) a vs := let ⟨n, e⟩ := hl; ⟨n, Heap.get?_push_of_some _ e⟩
    refine wpAny_bind (wpAny_typeOf (T := "tuple") (let ⟨n, e⟩ := hl1; ⟨_, e, rfl⟩) ?_)
    rw [if_pos (by decide)]
    have hk1 : ∀ b o, s.heap.get? b = some o → (s.heap.push { cls := .type "dict", data := .dict #[] }).get? b = some o := fun b o e => Heap.get?_push_of_some _ e
    refine wpAny_bind (getAttr?_miss_tuple hl1 hA.hand fun h2 tk2 hk2 => ?_)
    simp only [Option.isNone_none, if_true]
    refine wpAny_bind (wpAny_rule ?_)
    have hdo2 : h2.DictOf (strKind C.prog C.w) s.heap.objs.size [] := by
      obtain ⟨o, es, ep, ho, rest⟩ := hnew
      exact ⟨o, es, ep, hk2 _ _ ho, rest⟩
    have hk02 : ∀ b o, s.heap.get? b = some o → h2.get? b = some o := fun b o e => hk2 b o (hk1 b o e)
    have R2 : C.Rel σ g h2 := R.kept (.of_all hk02)
    refine wpAny_bind (pyIter_sound (A := A.in1.in1) (s := { s with heap := h2, toks := tk2 }) hA.hand R2 (VR_kept (C := C) (.of_all hk02) hv0) rfl fun o fp P St W st hfp hP _ => ?_)
    have hsz1 : s.heap.objs.size < h2.objs.size := let ⟨o, es, ep, ho, rest⟩ := hdo2; Heap.lt_size ho
    have hk3 : ∀ b o', h2.get? b = some o' → (h2.push o).get? b = some o' := fun b o' e => Heap.get?_push_of_some _ e
    have hal : a < s.heap.objs.size := let ⟨n, e⟩ := hl; Heap.lt_size e
    refine wpAny_pure ⟨plainId_quiet plain_dict_update_loop _, ?_⟩
    have hlen : r.length = l.length := by rw [pairsOf_at hr]; simp
    have key := dict_loop (C := C) (g := g) (A := A.in1) (s₀ := s) (r := r) (R' := wants (fun r s₂ => r = Value.none ∧ Q (Value.ref s.heap.objs.size) s₂) E) (I := h2.objs.size) (D := s.heap.objs.size) W (fun hm => ?_) ?_ (get?_size _) (Nat.ne_of_gt hsz1) hlen (by lia) (fun i z u hz hu => ?_) (fun h' tk kvs hk' hdo' hvd' => ⟨rfl, ?_⟩) l.length 0 (h2.push o) tk2 [] [] (by lia) (by lia) st (fun b o' e => hk3 b o' (hk02 b o' e)) ?_ .nil (Nat.le_refl _) rfl 0
    · exact key
    · rcases hfp _ hm with e | e
      · exact absurd e (Nat.ne_of_lt hsz1)
      · cases e; exact absurd hal (Nat.lt_irrefl _)
    · exact none_of_live (s := s) (s' := { s with heap := h2 }) (fun b hb => by obtain ⟨o', e⟩ := Option.isSome_iff_exists.mp hb; exact isSome_of (hk02 b o' e)) (get?_size _)
    · have := hP i z (.tup [.str u.1, u.2]) hz (by rw [pairsOf_at hr, List.getElem?_map, hu]; rfl)
      exact VR_back R hk02 this
    · exact hp.madeAt (tk := tk) R hk' (get?_size _) ⟨kvs, hdo', VRd_kept (C := C) (.of_all hk') hvd'⟩
    · obtain ⟨o', es, ep, ho, rest⟩ := hdo2
      exact ⟨o', es, ep, hk3 _ _ ho, rest⟩

theorem dict_sound (hA : AOK A d) (R : C.Rel σ g s.heap) {v : PV} {x : Value} (hv : C.VR g s.heap v x) (hp : PostO C σ g s (dictD (deref σ v)) Q) :
    wpAny (model C.prog C.w) A (call (.type "dict") [x]) Q E s := by
  have hd := deref_sound R hv
  have tup : ∀ l, deref σ v = .tup l → C.VR g s.heap (.tup l) x := fun l e => by
    cases v with
    | ref i =>
      have e : derefO σ[i]? = .tup l := e
      generalize σ[i]? = o at e
      rcases o with _ | (_ | _) <;> cases e
    | _ => exact e ▸ hv
  generalize deref σ v = w at hd hp tup
  cases w with
  | dct r =>
    obtain ⟨a, kvs, rfl, hm, h1, hr⟩ := hd
    have hp := PostO.ite hp
    have hs' := hr.length
    refine kt_call_dict (by simpa using hm) h1 (by have := small_le hp.1; rw [← hs', sizeLine_eq]; lia) fun h' h2 h3 => ?_
    have hk : ∀ b o, s.heap.get? b = some o → h'.get? b = some o := fun b o e => by
      rw [h3.2 b (Nat.ne_of_lt (Heap.lt_size e))]; exact Heap.get?_push_of_some _ e
    exact hp.2.madeAt (tk := s.toks) R hk (get?_size _) ⟨kvs, h2, VRd_kept (C := C) (.of_all hk) hr⟩
  | tup l =>
    obtain ⟨r, e, hp⟩ := PostO.bind hp
    have hp := hp.ite
    exact dict_pairs hA R (tup l rfl) e (small_le hp.1) hp.2
  | _ => exact hp.elim

/-! ### the small ones -/
theorem log2_small {n : Nat} (h : n < 10 ^ 40) : n.log2 < 1920 := by
  by_cases h0 : n = 0
  · subst h0; decide
  · rw [Nat.log2_lt h0]
    exact Nat.lt_trans h (by decide +kernel)

noncomputable def BI.callee : BI → Value
  | .len => .builtin "len" | .sorted => .builtin "sorted" | .tuple => .type "tuple" | .dict => .type "dict" | .str => .type "str" | .range => .type "range" | .isinst _ => .builtin "isinstance"
noncomputable def BI.more : BI → List Value
  | .isinst t => [t.val]
  | _ => []

theorem one_vr {args : List PV} {xs : List Value} {v : PV} (e : one args = some v) (hv : C.VRs g h args xs) : ∃ x, xs = [x] ∧ C.VR g h v x := by
  rcases args with _ | ⟨a, _ | ⟨b, l⟩⟩
  · cases e
  · cases e
    cases hv with | cons h1 h2 => cases h2; exact ⟨_, rfl, h1⟩
  · cases e
theorem bi_sound (K : C.OK) (hA : AOK A d) (R : C.Rel σ g s.heap) {b : BI} {args : List PV} {xs : List Value} (hv : C.VRs g s.heap args xs) (hp : PostO C σ g s (biP σ b args) Q) :
    wpAny (model C.prog C.w) A (call b.callee (xs ++ b.more)) Q E s := by
  cases b with
  | len =>
    obtain ⟨v, e, hp⟩ := PostO.bind hp
    obtain ⟨x, rfl, h1⟩ := one_vr e hv
    obtain ⟨n, h3, hp⟩ := hp.bind
    have hp := hp.ite
    exact len_sound R h1 h3 (small_le hp.1) fun t tk => hp.2.val R (.int ..)
  | sorted =>
    obtain ⟨v, e, hp⟩ := PostO.bind hp
    obtain ⟨x, rfl, h1⟩ := one_vr e hv
    obtain ⟨n, h3, hp⟩ := hp.bind
    have hp := hp.ite
    exact sorted_sound hA R h1 h3 hp.1 hp.2
  | tuple =>
    obtain ⟨v, e, hp⟩ := PostO.bind hp
    obtain ⟨x, rfl, h1⟩ := one_vr e hv
    obtain ⟨n, h3, hp⟩ := hp.bind
    have hp := hp.ite
    exact tuple_sound R h1 h3 (small_le hp.1) hp.2
  | dict =>
    obtain ⟨v, e, hp⟩ := PostO.bind hp
    obtain ⟨x, rfl, h1⟩ := one_vr e hv
    exact dict_sound hA R h1 hp
  | str =>
    obtain ⟨v, e, hp⟩ := PostO.bind hp
    obtain ⟨x, rfl, h1⟩ := one_vr e hv
    obtain ⟨n, h3, hp⟩ := hp.bind
    obtain ⟨t, rfl⟩ := int_vr h3 h1
    have hp := hp.ite
    exact PySem.P.str_of_int (log2_small hp.1) (hp.2.val R (.str ..))
  | range =>
    obtain ⟨v, e, hp⟩ := PostO.bind hp
    obtain ⟨x, rfl, h1⟩ := one_vr e hv
    obtain ⟨n, h3, hp⟩ := hp.bind
    obtain ⟨t, rfl⟩ := int_vr h3 h1
    have hp := hp.ite
    exact call_range_1 (hp.2.push R (.rng (.inr rfl) ⟨by decide, hp.1, _, _, _, IsRange.new ..⟩))
  | isinst t =>
    obtain ⟨v, e, hp⟩ := PostO.bind hp
    obtain ⟨x, rfl, h1⟩ := one_vr e hv
    cases ht : isTy σ t v with
    | none => rw [ht] at hp; exact hp.elim
    | some q => rw [ht] at hp; exact isinst_sound R h1 ht fun tk => hp.val R (.bool ..)
end Mine

set_option autoImplicit false
set_option backward.match.sparseCases true
set_option linter.unusedVariables false
namespace Mine
open PySem PyProof.Rows PySem.SeqAt

variable {C : Fix} {σ σ' : AH} {g g' : Cfg} {h h' : Heap} {s s' : Shared} {own : Addr → Prop} {A : Around} {d : Nat}
  {Q : Value → Shared → Prop} {E : Value → Shared → Prop}

/-! ### changing a tracked thing -/
theorem vrs_but {a : Addr} (hf : ¬ g.Φ a) (hk : ∀ b o, b ≠ a → h.get? b = some o → h'.get? b = some o) {v : List PV} {x : List Value} (hv : C.VRs g h v x) : C.VRs g h' v x :=
  hv.mono (List.prefix_refl _) (fun _ q => q) fun b o hb e => hk b o (fun q => hf (q ▸ hb)) e
theorem vr_but {a : Addr} (hf : ¬ g.Φ a) (hk : ∀ b o, b ≠ a → h.get? b = some o → h'.get? b = some o) {v : PV} {x : Value} (hv : C.VR g h v x) : C.VR g h' v x :=
  hv.mono (List.prefix_refl _) (fun _ q => q) fun b o hb e => hk b o (fun q => hf (q ▸ hb)) e
theorem vrd_but {a : Addr} (hf : ¬ g.Φ a) (hk : ∀ b o, b ≠ a → h.get? b = some o → h'.get? b = some o) {v : List (Str × PV)} {x : List (Str × Value)} (hv : C.VRd g h v x) : C.VRd g h' v x :=
  hv.mono (List.prefix_refl _) (fun _ q => q) fun b o hb e => hk b o (fun q => hf (q ▸ hb)) e
theorem set_ext {a : Addr} {tk : Nat} (hm : a ∈ g.μ) (hl : ¬ g.lk a) (hk : ∀ b o, b ≠ a → s.heap.get? b = some o → h'.get? b = some o) (ha : (h'.get? a).isSome = true) : Ext own g s g { s with heap := h', toks := tk } :=
  Ext.heap (fun b o e hb _ => hk b o (fun q => by subst q; exact hb.elim (fun q => q hm) hl) e) fun b hb => by
    by_cases hba : b = a
    · subst hba; exact ha
    · obtain ⟨o, ho⟩ := Option.isSome_iff_exists.mp hb; rw [hk b o hba ho]; rfl

noncomputable def PostS (C : Fix) (g : Cfg) (s : Shared) (r : Option (PV × AH)) (Q : Value → Shared → Prop) : Prop := match r with
  | none => False
  | some (v, σ') => ∀ g' s' y, Ext noOwn g s g' s' → C.Rel σ' g' s'.heap → C.VR g' s'.heap v y → Q y s'

theorem PostS.list {i : Nat} {a : Addr} {l : List PV} {v : PV} {y : Value} {tk : Nat} {vs : Array Value} (R : C.Rel σ g s.heap) (hi : g.μ[i]? = some a) (hl : ¬ g.lk a) (hp : PostS C g s (some (v, σ.set i (.list false l))) Q)
    (hk : ∀ b o, b ≠ a → s.heap.get? b = some o → h'.get? b = some o) (hx : IsListX h' a vs) (hv : C.VRs g s.heap l vs.toList) (hy : C.VR g s.heap v y) : Q y { s with heap := h', toks := tk } := by
  have hf := R.rel.disj a (List.mem_of_getElem? hi)
  refine hp g _ y (set_ext (List.mem_of_getElem? hi) hl hk (let ⟨n, e⟩ := hx; isSome_of e)) (R.set hi hk ⟨⟨fun q => (nomatch q), fun q => (hl q).elim⟩, vs, hx, vrs_but (C := C) hf hk hv⟩) (vr_but (C := C) hf hk hy)
theorem PostS.dict {i : Nat} {a : Addr} {l : List (Str × PV)} {v : PV} {y : Value} {tk : Nat} {kvs : List (Str × Value)} (R : C.Rel σ g s.heap) (hi : g.μ[i]? = some a) (hl : ¬ g.lk a) (hp : PostS C g s (some (v, σ.set i (.dict false l))) Q)
    (hk : ∀ b o, b ≠ a → s.heap.get? b = some o → h'.get? b = some o) (hx : h'.DictOf (strKind C.prog C.w) a kvs) (hv : C.VRd g s.heap l kvs) (hy : C.VR g s.heap v y) : Q y { s with heap := h', toks := tk } := by
  have hf := R.rel.disj a (List.mem_of_getElem? hi)
  refine hp g _ y (set_ext (List.mem_of_getElem? hi) hl hk (let ⟨o, es, ep, e, _⟩ := hx; isSome_of e)) (R.set hi hk ⟨⟨fun q => (nomatch q), fun q => (hl q).elim⟩, kvs, hx, vrd_but (C := C) hf hk hv⟩) (vr_but (C := C) hf hk hy)
theorem PostS.same {v : PV} {y : Value} {tk : Nat} (R : C.Rel σ g s.heap) (hp : PostS C g s (some (v, σ)) Q) (hy : C.VR g s.heap v y) : Q y { s with toks := tk } :=
  hp g _ y (Ext.toks (Ext.refl g s)) R hy

theorem updX {a : Addr} {vs : Array Value} {n : Nat} {f : Array Value → Array Value} (hx : h.get? a = some { cls := .type "list", dict := none, data := .seq vs n, slots := #[] }) : IsListX (h.update a (Obj.mapSeq f)) a (f vs) := by
  have e := Heap.get?_update_self (Obj.mapSeq f) hx rfl
  exact ⟨_, e⟩
theorem upd_but {a : Addr} {f : Obj → Obj} : ∀ b o, b ≠ a → h.get? b = some o → (h.update a f).get? b = some o := fun b o hb e => (Heap.get?_update_other _ _ (Ne.symm hb)).trans e

noncomputable def BM.id : BM → String
  | .append => "list.append" | .get => "dict.get"

theorem tracked_list (R : C.Rel σ g s.heap) {i : Nat} {a : Addr} {l : List PV} (ho : σ[i]? = some (.list false l)) (hi : g.μ[i]? = some a) : ¬ g.lk a ∧ ∃ vs n, s.heap.get? a = some { cls := .type "list", dict := none, data := .seq vs n, slots := #[] } ∧ C.VRs g s.heap l vs.toList := by
  obtain ⟨h1, vs, ⟨n, h2⟩, h3⟩ := R.rel.objs i _ a ho hi
  exact ⟨fun q => (nomatch h1.mpr q), vs, n, h2, h3⟩
theorem tracked_dict (R : C.Rel σ g s.heap) {i : Nat} {a : Addr} {l : List (Str × PV)} (ho : σ[i]? = some (.dict false l)) (hi : g.μ[i]? = some a) : ¬ g.lk a ∧ ∃ kvs, s.heap.DictOf (strKind C.prog C.w) a kvs ∧ C.VRd g s.heap l kvs := by
  obtain ⟨h1, vs, h2, h3⟩ := R.rel.objs i _ a ho hi
  exact ⟨fun q => (nomatch h1.mpr q), vs, h2, h3⟩

theorem PostS.bind {α : Type} {o : Option α} {f : α → Option (PV × AH)} (hp : PostS C g s (o.bind f) Q) : ∃ x, o = some x ∧ PostS C g s (f x) Q := bind_elim (fun o => PostS C g s o Q) id hp
theorem openL_eq {i : Nat} {l : List PV} (h : openL σ i = some l) : σ[i]? = some (.list false l) := by
  unfold openL at h
  generalize σ[i]? = o at h ⊢
  rcases o with _ | (⟨_ | _, _⟩ | _) <;> cases h
  rfl
theorem openD_eq {i : Nat} {l : List (Str × PV)} (h : openD σ i = some l) : σ[i]? = some (.dict false l) := by
  unfold openD at h
  generalize σ[i]? = o at h ⊢
  rcases o with _ | (_ | ⟨_ | _, _⟩) <;> cases h
  rfl
theorem pair_vr {args : List PV} {xs : List Value} {p : PV × PV} (e : pairA args = some p) (hv : C.VRs g h args xs) : ∃ x y, xs = [x, y] ∧ C.VR g h p.1 x ∧ C.VR g h p.2 y := by
  rcases args with _ | ⟨a, _ | ⟨b, _ | ⟨c, l⟩⟩⟩ <;> cases e
  cases hv with | cons h1 h2 => cases h2 with | cons h2 h3 => cases h3; exact ⟨_, _, rfl, h1, h2⟩

theorem bm_sound (hA : AOK A d) (R : C.Rel σ g s.heap) {m : BM} {o : PV} {args : List PV} {x : Value} {xs : List Value} (hx : C.VR g s.heap o x) (hv : C.VRs g s.heap args xs) (hp : PostS C g s (bmP σ m o args) Q) :
    wpAny (model C.prog C.w) A (call (.builtin m.id) (x :: xs)) Q E s := by
  cases m with
  | append =>
    obtain ⟨v, e, hp⟩ := PostS.bind hp
    obtain ⟨y, rfl, h1⟩ := one_vr e hv
    obtain ⟨i, e, hp⟩ := hp.bind
    rw [refOf_eq e] at hx
    obtain ⟨a, rfl, hi⟩ := VR_inv hx
    obtain ⟨l, e, hp⟩ := hp.bind
    obtain ⟨hl, vs, n, h3, h4⟩ := tracked_list R (openL_eq e) hi
    have h5 := h4.size
    split at hp
    · rename_i hs
      have hs := small_le hs
      refine wpAny_list_append_plain ⟨n, h3⟩ (fun h' hx' hsb => ?_) (by rw [h5, sizeLine_eq]; omega)
      refine hp.list (tk := s.toks) R hi hl (fun b ob hb e => by rw [hsb.2 b hb]; exact e) (let ⟨n', e⟩ := hx'; ⟨n', e⟩) ?_ .none
      rw [Array.toList_push]; exact h4.append (.cons h1 .nil)
    · exact hp.elim
  | get =>
    obtain ⟨p, e, hp⟩ := PostS.bind hp
    obtain ⟨y, z, rfl, h1, h2⟩ := pair_vr e hv
    obtain ⟨k, e, hp⟩ := hp.bind
    obtain ⟨t, rfl⟩ := str_vr e h1
    obtain ⟨l, e, hp⟩ := hp.bind
    have hd := deref_sound R hx
    rw [dctOf_eq e] at hd
    obtain ⟨a, kvs, rfl, hm, h5, h6⟩ := hd
    refine call_meetsIn PySem.F.slot_dict_get h5.typeIs PySem.F.entry_dict_get (PySem.F.args_dict_get_3 _ _ _) (meets_dict_get_default (strKind C.prog C.w) a (strKind_is C.prog C.w k t) (by simpa using hm) _) ⟨_, h5.mapOf, ?_⟩
    have h7 := h6.get k
    cases hq : dget l k with
    | none => rw [hq] at h7 hp; have h7 : valueAt kvs k = none := h7; rw [h7]; exact hp.same R h2
    | some u => rw [hq] at h7 hp; obtain ⟨w, h8, h9⟩ := h7; rw [h8]; exact hp.same R h9
end Mine

set_option autoImplicit false
set_option backward.match.sparseCases true
set_option linter.unusedVariables false
namespace Mine
open PySem PyProof.Rows PySem.SeqAt

/-! ## frames -/
noncomputable def isCellK : Option NameKind → Bool
  | some .cell | some .free => true
  | _ => false

structure FR (C : Fix) (nm : NM) (vm : VM) (env : Env) (ρ : List PV) (g : Cfg) (h : Heap) : Prop where
  kind : env.scope.kind = .function
  names : env.scope.names = nm
  glob : env.globals = mainGlobals
  blt : env.builtins = builtinsNs
  inj : ∀ x y i, vm.lookup x = some i → vm.lookup y = some i → x = y
  ns : ∃ m, h.Ns env.locals m ∧ ∀ x i v, vm.lookup x = some i → nm.lookup x = some .local → ρ[i]? = some v → v ≠ .undef → ∃ y, m x = some y ∧ C.VR g h v y
  cl : ∀ x i, vm.lookup x = some i → isCellK (nm.lookup x) = true → ∃ c o, env.cells.lookup x = some c ∧ h.IsCell c o ∧ ∀ v, ρ[i]? = some v → v ≠ .undef → ∃ y, o = some y ∧ C.VR g h v y
  offL : env.locals ∉ g.μ ∧ ¬ g.Φ env.locals
  offC : ∀ x c, env.cells.lookup x = some c → c ∉ g.μ ∧ ¬ g.Φ c
  cliv : ∀ x c, env.cells.lookup x = some c → ∃ o, h.IsCell c o
  apart : ∀ x y c, env.cells.lookup x = some c → env.cells.lookup y = some c → x = y

/-- the frame's own things -/
noncomputable def ownOf (env : Env) : Addr → Prop := fun b => b = env.locals ∨ ∃ x, env.cells.lookup x = some b

variable {C : Fix} {c : Cx} {σ σ' : AH} {g g' : Cfg} {h h' : Heap} {s s' : Shared} {own : Addr → Prop} {A : Around} {d : Nat} {nm : NM} {vm : VM} {env : Env} {ρ : List PV}
  {Q : Value → Shared → Prop} {E : Value → Shared → Prop}

theorem Heap.Ns.live {h : Heap} {a : Addr} {m : Str → Option Value} (x : h.Ns a m) : ∃ o, h.get? a = some o := by
  obtain ⟨o, es, ep, ho, _⟩ := x; exact ⟨o, ho⟩

theorem FR.ext (F : FR C nm vm env ρ g s.heap) (R : C.Rel σ g s.heap) (e : Ext noOwn g s g' s') : FR C nm vm env ρ g' s'.heap where
  kind := F.kind
  names := F.names
  glob := F.glob
  blt := F.blt
  inj := F.inj
  ns := by
    obtain ⟨m, h1, h2⟩ := F.ns
    refine ⟨m, ?_, fun x i v a1 a2 a3 a4 => ?_⟩
    · obtain ⟨o, es, ep, ho, rest⟩ := h1
      exact ⟨o, es, ep, e.keep _ _ ho (.inl F.offL.1) (fun q => q), rest⟩
    · obtain ⟨y, b1, b2⟩ := h2 x i v a1 a2 a3 a4
      exact ⟨y, b1, VR_ext R e Off.none b2⟩
  cl := fun x i a1 a2 => by
    obtain ⟨cc, o, b1, b2, b3⟩ := F.cl x i a1 a2
    refine ⟨cc, o, b1, ?_, fun v a3 a4 => ?_⟩
    · obtain ⟨ob, ho, rest⟩ := b2
      exact ⟨ob, e.keep _ _ ho (.inl (F.offC x cc b1).1) (fun q => q), rest⟩
    · obtain ⟨y, c1, c2⟩ := b3 v a3 a4
      exact ⟨y, c1, VR_ext R e Off.none c2⟩
  offL := by
    obtain ⟨m, h1, _⟩ := F.ns
    obtain ⟨o, ho⟩ := Heap.Ns.live h1
    exact ⟨e.notμ ho F.offL.1, e.notΦ ho F.offL.2⟩
  offC := fun x cc b1 => by
    obtain ⟨o, ob, ho, _⟩ := F.cliv x cc b1
    exact ⟨e.notμ ho (F.offC x cc b1).1, e.notΦ ho (F.offC x cc b1).2⟩
  cliv := fun x cc b1 => by
    obtain ⟨o, ob, ho, rest⟩ := F.cliv x cc b1
    exact ⟨o, ob, e.keep _ _ ho (.inl (F.offC x cc b1).1) (fun q => q), rest⟩
  apart := F.apart

/-- the base as a configuration -/
noncomputable def Fix.g0 (C : Fix) : Cfg := ⟨[], fun a => (C.B.get? a).isSome = true, fun _ => False⟩

noncomputable def biWords : List Str := ["len", "sorted", "tuple", "list", "dict", "str", "int", "abs", "range", "min", "max", "sum", "all", "isinstance", "bool", "set"]

structure CxOK (C : Fix) (c : Cx) (d : Nat) : Prop where
  gl : ∀ x v, c.gl x = some v → ∃ y, C.mg x = some y ∧ C.VR C.g0 C.B v y
  fnv : ∀ f args σ, c.cal f args σ ≠ .bad → ∃ a o fd, C.mg f = some (.ref a) ∧ C.B.get? a = some o ∧ o.data = .func fd
  cal : ∀ f a args xs σ g s A Q E, C.mg f = some (.ref a) → AOK A d → C.Rel σ g s.heap → C.VRs g s.heap args xs → PostE C noOwn g s (c.cal f args σ) Q E → wpAny (model C.prog C.w) A (call (.ref a) xs) Q E s
  bi : ∀ w ∈ biWords, C.mg w = none

theorem VR_base (R : C.Rel σ g h) {v : PV} {y : Value} (hv : C.VR C.g0 C.B v y) : C.VR g h v y :=
  hv.mono (List.nil_prefix) (fun a ha => R.bas a ha) fun a o ha e => R.rel.base a o e

/-! ## results -/
theorem ok_inj {α : Type} {a b : α} {σ σ' : AH} (h : Res.ok a σ = .ok b σ') : a = b ∧ σ = σ' := by cases h; exact ⟨rfl, rfl⟩
theorem bind_inv {α β : Type} {r : Res α} {f : α → AH → Res β} {v : β} {σ' : AH} (h : r.bind f = .ok v σ') : ∃ a σ1, r = .ok a σ1 ∧ f a σ1 = .ok v σ' := by
  cases r with
  | ok a σ1 => exact ⟨a, σ1, rfl, h⟩
  | exc => cases h
  | bad => cases h
theorem PostE.bindE {α : Type} {r : Res α} {f : α → AH → Res PV} (hp : PostE C own g s (r.bind f) Q E) : ∃ v σ1, r = .ok v σ1 ∧ PostE C own g s (f v σ1) Q E := by
  cases r with
  | ok v σ1 => exact ⟨v, σ1, rfl, hp⟩
  | exc => exact hp.elim
  | bad => exact hp.elim

theorem PostE.mk {r : Res PV} {v : PV} (hr : r = .ok v σ') (h : ∀ g' s' x, Ext own g s g' s' → C.Rel σ' g' s'.heap → C.VR g' s'.heap v x → Q x s') : PostE C own g s r Q E := by rw [hr]; exact h

noncomputable def PostT (C : Fix) (own : Addr → Prop) (g : Cfg) (s : Shared) (r : Res PV) (Q : Bool → Shared → Prop) : Prop := match r with
  | .ok v σ' => match truth σ' v with
    | some b => ∀ g' s', Ext own g s g' s' → C.Rel σ' g' s'.heap → Q b s'
    | none => False
  | _ => False
noncomputable def PostL (C : Fix) (own : Addr → Prop) (g : Cfg) (s : Shared) (r : Res (List PV)) (Q : List Value → Shared → Prop) : Prop := match r with
  | .ok vs σ' => ∀ g' s' xs, Ext own g s g' s' → C.Rel σ' g' s'.heap → C.VRs g' s'.heap vs xs → Q xs s'
  | _ => False

theorem PostL.mk {r : Res (List PV)} {v : List PV} {Q : List Value → Shared → Prop} (hr : r = .ok v σ') (h : ∀ g' s' x, Ext own g s g' s' → C.Rel σ' g' s'.heap → C.VRs g' s'.heap v x → Q x s') : PostL C own g s r Q := by rw [hr]; exact h
theorem PostT.mk {r : Res PV} {v : PV} {b : Bool} {Q : Bool → Shared → Prop} (hr : r = .ok v σ') (hb : truth σ' v = some b) (h : ∀ g' s', Ext own g s g' s' → C.Rel σ' g' s'.heap → Q b s') : PostT C own g s r Q := by
  rw [hr]; unfold PostT; simp only [hb]; exact h

noncomputable def SndE (C : Fix) (c : Cx) (d : Nat) (pe : PE) : Prop := ∀ nm vm e env m ρ σ g s A (Q E : Value → Shared → Prop), chkE pe nm vm e = true → FR C nm vm env ρ g s.heap → C.Rel σ g s.heap → AOK A d →
  PostE C noOwn g s (ev c pe m ρ σ) Q E → wpAny (model C.prog C.w) A (eval e env) Q E s
noncomputable def SndT (C : Fix) (c : Cx) (d : Nat) (pe : PE) : Prop := ∀ nm vm e env ρ σ g s A (Q : Bool → Shared → Prop) (E : Value → Shared → Prop), chkE pe nm vm e = true → FR C nm vm env ρ g s.heap → C.Rel σ g s.heap → AOK A d →
  PostT C noOwn g s (ev c pe 0 ρ σ) Q → wpAny (model C.prog C.w) A (isTrue e env (eval e env)) Q E s
noncomputable def SndEs (C : Fix) (c : Cx) (d : Nat) (pes : PEs) : Prop := ∀ nm vm es env m ρ σ g s A pos (Q : List Value → Shared → Prop) (E : Value → Shared → Prop), chkEs pes nm vm es = true → FR C nm vm env ρ g s.heap → C.Rel σ g s.heap → AOK A d →
  PostL C noOwn g s (evs c pes m ρ σ) Q → wpAny (model C.prog C.w) A (spliced (backTo pos (starEach es env))) Q E s

/-! ## what the check tells of the syntax -/
noncomputable def plainE : Expr → Bool
  | .Starred .. | .Slice .. | .Set .. => false
  | _ => true
theorem chk_plain {pe : PE} {e : Expr} (hc : chkE pe nm vm e = true) : plainE e = true := by
  cases e <;> first | rfl | (cases pe <;> (exact absurd (show false = true from hc) Bool.false_ne_true))

theorem starEach_plain {e : Expr} {rest : List Expr} (h : plainE e = true) : starEach (e :: rest) env = (false, eval e env) :: starEach rest env := by
  cases e <;> first | rfl | cases h
theorem chkEs_cons {e : PE} {es : PEs} {l : List Expr} (h : chkEs (.cons e es) nm vm l = true) : ∃ a as, l = a :: as ∧ chkE e nm vm a = true ∧ chkEs es nm vm as = true := by
  cases l with
  | nil => cases h
  | cons a as =>
    have h' : (chkE e nm vm a && chkEs es nm vm as) = true := h
    obtain ⟨h1, h2⟩ := Bool.and_eq_true_iff.mp h'
    exact ⟨a, as, rfl, h1, h2⟩
theorem chkEs_nil {l : List Expr} (h : chkEs .nil nm vm l = true) : l = [] := by
  cases l with
  | nil => rfl
  | cons => cases h

theorem sndEs_nil : SndEs C c d .nil := by
  intro nm vm es env m ρ σ g s A pos Q E hc F R hA hp
  rw [chkEs_nil hc]
  exact Calls.spliced_nil (hp g s [] (Ext.refl g s) R .nil)
theorem sndEs_cons {e : PE} {es : PEs} (h1 : SndE C c d e) (h2 : SndEs C c d es) : SndEs C c d (.cons e es) := by
  intro nm vm l env m ρ σ g s A pos Q E hc F R hA hp
  obtain ⟨a, as, rfl, c1, c2⟩ := chkEs_cons hc
  have e1 : backTo pos (starEach (a :: as) env) = (false, eval a env) :: backTo pos (starEach as env) := by rw [starEach_plain (chk_plain c1)]; rfl
  rw [e1]
  simp only [evs] at hp
  cases hr : ev c e m ρ σ with
  | exc => rw [hr] at hp; exact hp.elim
  | bad => rw [hr] at hp; exact hp.elim
  | ok v σ1 =>
    rw [hr] at hp
    simp only [Res.bind] at hp
    cases hr2 : evs c es m ρ σ1 with
    | exc => rw [hr2] at hp; exact hp.elim
    | bad => rw [hr2] at hp; exact hp.elim
    | ok vs σ2 =>
      rw [hr2] at hp
      refine Calls.spliced_cons (h1 nm vm a env m ρ σ g s A _ _ c1 F R hA (PostE.mk hr fun g1 s1 x x1 R1 v1 => ?_))
      refine h2 nm vm as env m ρ σ1 g1 s1 A pos _ _ c2 (F.ext R x1) R1 hA (PostL.mk hr2 fun g2 s2 xs x2 R2 v2 => ?_)
      exact hp g2 s2 (x :: xs) (x1.trans x2) R2 (.cons (VR_ext R1 x2 Off.none v1) v2)

/-! ## one by one -/
theorem sndE_const (k : Const) : SndE C c d (.const k) := by
  intro nm vm e env m ρ σ g s A Q E hc F R hA hp
  cases e <;> try (exact absurd (show false = true from hc) Bool.false_ne_true)
  rename_i k' a b
  have hc' : (okConst k && decide (k = k')) = true := hc
  obtain ⟨h1, h2⟩ := Bool.and_eq_true_iff.mp hc'
  have h2 := of_decide_eq_true h2
  subst h2
  simp only [ev] at hp
  cases k with
  | none => exact fun _ _ _ => hp g s _ (Ext.refl g s) R .none
  | bool b => exact fun _ _ _ => hp g s _ (Ext.refl g s) R (.bool b)
  | int i => exact wpAny_Constant_int (hp g _ _ (Ext.refl g s).toks R (.int i _))
  | str x => exact Calls.Constant_str (hp g _ _ (Ext.refl g s).toks R (.str x _))
  | _ => cases h1

theorem plainName_debug {x : Str} (h : plainName x = true) : (x == ("__debug__" : Str)) = false := by
  have := (Bool.and_eq_true_iff.mp (show (_ && _) = true from h)).1
  simpa using this

theorem plainName_cd {x : Str} (h : plainName x = true) : (x == ("__classdict__" : Str)) = false := by
  have := (Bool.and_eq_true_iff.mp (show (_ && _) = true from h)).2
  simpa using this

theorem sndE_loc (i : Nat) : SndE C c d (.loc i) := by
  intro nm vm e env m ρ σ g s A Q E hc F R hA hp
  cases e <;> try (exact absurd (show false = true from hc) Bool.false_ne_true)
  rename_i x pos
  have hc' : (vm.lookup x == some i && isVar (nm.lookup x) && plainName x) = true := hc
  obtain ⟨h12, h3⟩ := Bool.and_eq_true_iff.mp hc'
  obtain ⟨h1, h2⟩ := Bool.and_eq_true_iff.mp h12
  have h1 : vm.lookup x = some i := by simpa using h1
  simp only [ev] at hp
  cases hv : ρ[i]? with
  | none => rw [hv] at hp; exact hp.elim
  | some v =>
    rw [hv] at hp
    have hu : v ≠ .undef := by rintro rfl; exact hp.elim
    have hp' : PostE C noOwn g s (.ok v σ) Q E := by cases v <;> first | exact hp | exact absurd rfl hu
    have hkind : env.kindOf x = nm.lookup x := by rw [← F.names]; rfl
    refine wpAny_Name ?_ (plainName_debug h3)
    cases hk : nm.lookup x with
    | none => rw [hk] at h2; cases h2
    | some k =>
      rw [hk] at h2 hkind
      cases k with
      | «local» =>
        obtain ⟨m', n1, n2⟩ := F.ns
        obtain ⟨y, b1, b2⟩ := n2 x i v h1 hk hv hu
        exact wpAny_loadName_local F.kind hkind n1 b1 (hp' g s y (Ext.refl g s) R b2)
      | cell =>
        obtain ⟨cc, o, b1, b2, b3⟩ := F.cl x i h1 (by rw [hk]; rfl)
        obtain ⟨y, rfl, b4⟩ := b3 v hv hu
        exact wpAny_loadName_cell F.kind hkind b1 b2 (hp' g s y (Ext.refl g s) R b4)
      | free =>
        obtain ⟨cc, o, b1, b2, b3⟩ := F.cl x i h1 (by rw [hk]; rfl)
        obtain ⟨y, rfl, b4⟩ := b3 v hv hu
        exact wpAny_loadName_free F.kind hkind b1 b2 (hp' g s y (Ext.refl g s) R b4) (plainName_cd h3)
      | _ => cases h2

theorem isGlob_kind {x : Str} (F : FR C nm vm env ρ g h) (hg : isGlob (nm.lookup x) = true) : env.kindOf x = some .globalImplicit := by
  have hkind : env.kindOf x = nm.lookup x := by rw [← F.names]; rfl
  rw [hkind]
  cases hk : nm.lookup x with
  | none => rw [hk] at hg; cases hg
  | some k => rw [hk] at hg; cases k <;> first | rfl | cases hg

theorem globNs (K : C.OK) (R : C.Rel σ g s.heap) (F : FR C nm vm env ρ g s.heap) : s.heap.Ns env.globals C.mg := F.glob ▸ K.g.keeps R.rel.base
theorem bltNs (K : C.OK) (R : C.Rel σ g s.heap) (F : FR C nm vm env ρ g s.heap) : s.heap.Ns env.builtins C.mb := F.blt ▸ K.b.keeps R.rel.base

theorem sndE_bin (K : C.OK) {op : Operator} {a b : PE} (ha : SndE C c d a) (hb : SndE C c d b) : SndE C c d (.bin op a b) := by
  intro nm vm e env m ρ σ g s A Q E hc F R hA hp
  cases e <;> try (exact absurd (show false = true from hc) Bool.false_ne_true)
  rename_i l op' r pos
  have hc' : (decide (op = op') && chkE a nm vm l && chkE b nm vm r) = true := hc
  obtain ⟨h12, h3⟩ := Bool.and_eq_true_iff.mp hc'
  obtain ⟨h1, h2⟩ := Bool.and_eq_true_iff.mp h12
  have h1 := of_decide_eq_true h1
  subst h1
  simp only [ev] at hp
  obtain ⟨x, σ1, r1, hp⟩ := hp.bindE
  obtain ⟨y, σ2, r2, hp⟩ := hp.bindE
  refine wpAny_BinOp (ha nm vm l env 0 ρ σ g s A _ _ h2 F R hA (PostE.mk r1 fun g1 s1 vx e1 R1 v1 => ?_))
  refine hb nm vm r env 0 ρ σ1 g1 s1 A _ _ h3 (F.ext R e1) R1 hA (PostE.mk r2 fun g2 s2 vy e2 R2 v2 => ?_)
  exact binop_sound K hA R2 (VR_ext R1 e2 Off.none v1) v2 (fin_sound (hp.shift (e1.trans e2)))

end Mine

set_option autoImplicit false
set_option backward.match.sparseCases true
set_option linter.unusedVariables false
namespace Mine
open PySem PyProof.Rows PySem.SeqAt

variable {C : Fix} {c : Cx} {σ σ' : AH} {g g' : Cfg} {h h' : Heap} {s s' : Shared} {own : Addr → Prop} {A : Around} {d : Nat} {nm : NM} {vm : VM} {env : Env} {ρ : List PV}
  {Q : Value → Shared → Prop} {E : Value → Shared → Prop}

theorem and2 {a b : Bool} (h : (a && b) = true) : a = true ∧ b = true := Bool.and_eq_true_iff.mp h

theorem PostT.okT {r : Res PV} {Q : Bool → Shared → Prop} (hp : PostT C own g s r Q) : ∃ v σ1 b, r = .ok v σ1 ∧ truth σ1 v = some b ∧ ∀ g' s', Ext own g s g' s' → C.Rel σ1 g' s'.heap → Q b s' := by
  cases r with
  | ok v σ1 =>
    unfold PostT at hp
    simp only at hp
    cases ht : truth σ1 v with
    | none => rw [ht] at hp; exact hp.elim
    | some b => rw [ht] at hp; exact ⟨v, σ1, b, rfl, ht, hp⟩
  | exc => exact hp.elim
  | bad => exact hp.elim
theorem PostT.bindT {α : Type} {r : Res α} {f : α → AH → Res PV} {Q : Bool → Shared → Prop} (hp : PostT C own g s (r.bind f) Q) : ∃ v σ1, r = .ok v σ1 ∧ PostT C own g s (f v σ1) Q := by
  cases r with
  | ok v σ1 => exact ⟨v, σ1, rfl, hp⟩
  | exc => exact hp.elim
  | bad => exact hp.elim
theorem PostT.shift {r : Res PV} {Q : Bool → Shared → Prop} (e : Ext own g s g' s') (hp : PostT C own g s r Q) : PostT C own g' s' r Q := by
  obtain ⟨v, σ1, b, h1, h2, h3⟩ := hp.okT
  exact PostT.mk h1 h2 fun g2 s2 e2 R => h3 g2 s2 (e.trans e2) R
theorem PostE.okE {r : Res PV} (hp : PostE C own g s r Q E) : ∃ v σ1, r = .ok v σ1 ∧ ∀ g' s' x, Ext own g s g' s' → C.Rel σ1 g' s'.heap → C.VR g' s'.heap v x → Q x s' := by
  cases r with
  | ok v σ1 => exact ⟨v, σ1, rfl, hp⟩
  | exc => exact hp.elim
  | bad => exact hp.elim

/-- tests whose syntax isTrue does not take apart -/
noncomputable def bareT : Expr → Bool
  | .UnaryOp .Not _ _ | .BoolOp .. | .IfExp .. | .Compare .. => false
  | _ => true
theorem isTrue_bare {e : Expr} {whole : Sem Value} (h : bareT e = true) : isTrue e env whole = (do let v ← whole; standAt e.pos; holding [v] (truthy v)) := by
  cases e <;> first | rfl | cases h | skip
  rename_i op x pos
  cases op <;> first | rfl | cases h
theorem sndT_bare {pe : PE} (hE : SndE C c d pe) (hb : ∀ nm vm e, chkE pe nm vm e = true → bareT e = true) : SndT C c d pe := by
  intro nm vm e env ρ σ g s A Q E hc F R hA hp
  obtain ⟨v, σ1, b, h1, h2, h3⟩ := hp.okT
  rw [isTrue_bare (hb nm vm e hc)]
  refine wpAny_bind (hE nm vm e env 0 ρ σ g s A _ _ hc F R hA (PostE.mk h1 fun g1 s1 x e1 R1 v1 => wpAny_bind (wpAny_standAt (wpAny_holding ?_))))
  exact truth_sound R1 v1 h2 fun tk => h3 g1 _ e1.toks R1

theorem sndE_not {a : PE} (ha : SndE C c d a) : SndE C c d (.notE a) := by
  intro nm vm e env m ρ σ g s A Q E hc F R hA hp
  cases e <;> try (exact absurd (show false = true from hc) Bool.false_ne_true)
  rename_i op x pos
  cases op <;> try (exact absurd (show false = true from hc) Bool.false_ne_true)
  have hc' : chkE a nm vm x = true := hc
  obtain ⟨v, σ1, r1, hp⟩ := hp.bindE
  refine wpAny_UnaryOp (ha nm vm x env 0 ρ σ g s A _ _ hc' F R hA (PostE.mk r1 fun g1 s1 vx e1 R1 v1 => ?_))
  cases ht : truth σ1 v with
  | none => rw [ht] at hp; exact hp.elim
  | some b =>
    rw [ht] at hp
    unfold unaryOp
    refine wpAny_holding ?_
    show wpAny _ _ (truthy vx >>= fun b => pure (Value.bool (!b))) _ _ _
    exact wpAny_bind (truth_sound R1 v1 ht fun tk => wpAny_pure (hp g1 _ _ e1.toks R1 (.bool _)))
theorem sndT_not {a : PE} (ha : SndT C c d a) : SndT C c d (.notE a) := by
  intro nm vm e env ρ σ g s A Q E hc F R hA hp
  cases e <;> try (exact absurd (show false = true from hc) Bool.false_ne_true)
  rename_i op x pos
  cases op <;> try (exact absurd (show false = true from hc) Bool.false_ne_true)
  have hc' : chkE a nm vm x = true := hc
  obtain ⟨v, σ1, r1, hp⟩ := hp.bindT
  cases ht : truth σ1 v with
  | none => rw [ht] at hp; exact hp.elim
  | some b =>
    rw [ht] at hp
    exact wpAny_isTrue_Not (ha nm vm x env ρ σ g s A _ _ hc' F R hA (PostT.mk r1 ht fun g1 s1 e1 R1 => hp g1 s1 e1 R1))

theorem sndE_neg {a : PE} (ha : SndE C c d a) : SndE C c d (.neg a) := by
  intro nm vm e env m ρ σ g s A Q E hc F R hA hp
  cases e <;> try (exact absurd (show false = true from hc) Bool.false_ne_true)
  rename_i op x pos
  cases op <;> try (exact absurd (show false = true from hc) Bool.false_ne_true)
  have hc' : chkE a nm vm x = true := hc
  obtain ⟨v, σ1, r1, hp⟩ := hp.bindE
  refine wpAny_UnaryOp (ha nm vm x env 0 ρ σ g s A _ _ hc' F R hA (PostE.mk r1 fun g1 s1 vx e1 R1 v1 => ?_))
  cases v1 <;> first | exact hp.elim | skip
  exact PyProof.Rows.neg_int (hp g1 _ _ e1.toks R1 (.int ..))

theorem plain_marks {op : CmpOp} {e : Expr} (h : plainE e = true) : behindInMarks op e = false := by
  cases e <;> first | rfl | cases h

theorem cmp_chk {op : CmpOp} {a b : PE} {e : Expr} (hc : chkE (.cmp op a b) nm vm e = true) : ∃ l r pos, e = .Compare l [op] [r] pos ∧ chkE a nm vm l = true ∧ chkE b nm vm r = true := by
  cases e <;> try (exact absurd (show false = true from hc) Bool.false_ne_true)
  rename_i l ops rs pos
  rcases ops with _ | ⟨o1, _ | ⟨o2, os⟩⟩ <;> rcases rs with _ | ⟨r1, _ | ⟨r2, rs⟩⟩ <;> try (exact absurd (show false = true from hc) Bool.false_ne_true)
  obtain ⟨h12, h3⟩ := and2 (show (decide (op = o1) && chkE a nm vm l && chkE b nm vm r1) = true from hc)
  obtain ⟨h1, h2⟩ := and2 h12
  have h1 := of_decide_eq_true h1
  subst h1
  exact ⟨l, r1, pos, rfl, h2, h3⟩
theorem sndE_cmp {op : CmpOp} {a b : PE} (ha : SndE C c d a) (hb : SndE C c d b) : SndE C c d (.cmp op a b) := by
  intro nm vm e env m ρ σ g s A Q E hc F R hA hp
  obtain ⟨l, r, pos, rfl, h2, h3⟩ := cmp_chk hc
  obtain ⟨x, σ1, r1, hp⟩ := hp.bindE
  obtain ⟨y, σ2, r2, hp⟩ := hp.bindE
  refine wpAny_Compare1 (ha nm vm l env 0 ρ σ g s A _ _ h2 F R hA (PostE.mk r1 fun g1 s1 vx e1 R1 v1 => ?_)) (plain_marks (chk_plain h3))
  refine hb nm vm r env 0 ρ σ1 g1 s1 A _ _ h3 (F.ext R e1) R1 hA (PostE.mk r2 fun g2 s2 vy e2 R2 v2 => ?_)
  cases hq : cmpP σ2 op x y with
  | none => rw [hq] at hp; exact hp.elim
  | some q =>
    rw [hq] at hp
    exact cmpP_sound hA R2 (VR_ext R1 e2 Off.none v1) v2 hq fun tk => hp g2 _ _ (e1.trans e2).toks R2 (.bool _)
theorem sndT_cmp {op : CmpOp} {a b : PE} (ha : SndE C c d a) (hb : SndE C c d b) : SndT C c d (.cmp op a b) := by
  intro nm vm e env ρ σ g s A Q E hc F R hA hp
  obtain ⟨l, r, pos, rfl, h2, h3⟩ := cmp_chk hc
  obtain ⟨x, σ1, r1, hp⟩ := hp.bindT
  obtain ⟨y, σ2, r2, hp⟩ := hp.bindT
  refine wpAny_isTrue_Compare1 (ha nm vm l env 0 ρ σ g s A _ _ h2 F R hA (PostE.mk r1 fun g1 s1 vx e1 R1 v1 => ?_)) (plain_marks (chk_plain h3))
  refine hb nm vm r env 0 ρ σ1 g1 s1 A _ _ h3 (F.ext R e1) R1 hA (PostE.mk r2 fun g2 s2 vy e2 R2 v2 => ?_)
  cases hq : cmpP σ2 op x y with
  | none => rw [hq] at hp; exact hp.elim
  | some q =>
    rw [hq] at hp
    exact cmpP_sound hA R2 (VR_ext R1 e2 Off.none v1) v2 hq fun tk => wpAny_truthy_bool (hp g2 _ (e1.trans e2).toks R2)

/-! ### and, or -/
noncomputable def SndB (C : Fix) (c : Cx) (d : Nat) (op : BoolOp) (f : PEs → List PV → AH → Res PV) (pes : PEs) : Prop :=
  (∀ nm vm es env ρ σ g s A pos (Q E : Value → Shared → Prop), chkEs pes nm vm es = true → FR C nm vm env ρ g s.heap → C.Rel σ g s.heap → AOK A d →
    PostE C noOwn g s (f pes ρ σ) Q E → wpAny (model C.prog C.w) A (boolOp pos op (evalEach es env)) Q E s) ∧
  (∀ nm vm es env ρ σ g s A (Q : Bool → Shared → Prop) (E : Value → Shared → Prop), chkEs pes nm vm es = true → FR C nm vm env ρ g s.heap → C.Rel σ g s.heap → AOK A d →
    PostT C noOwn g s (f pes ρ σ) Q → wpAny (model C.prog C.w) A (allTrue op es env) Q E s)

theorem sndAnd_nil : SndB C c d .And (evAnd c) .nil := by
  constructor
  · intro nm vm es env ρ σ g s A pos Q E hc F R hA hp; simp only [evAnd] at hp; exact hp.elim
  · intro nm vm es env ρ σ g s A Q E hc F R hA hp; simp only [evAnd] at hp; exact hp.elim
theorem sndOr_nil : SndB C c d .Or (evOr c) .nil := by
  constructor
  · intro nm vm es env ρ σ g s A pos Q E hc F R hA hp; simp only [evOr] at hp; exact hp.elim
  · intro nm vm es env ρ σ g s A Q E hc F R hA hp; simp only [evOr] at hp; exact hp.elim

theorem sndAnd_cons {e : PE} {es : PEs} (hE : SndE C c d e) (hT : SndT C c d e) (hr : SndB C c d .And (evAnd c) es) : SndB C c d .And (evAnd c) (.cons e es) := by
  constructor
  · intro nm vm l env ρ σ g s A pos Q E hc F R hA hp
    obtain ⟨a, as, rfl, c1, c2⟩ := chkEs_cons hc
    cases es with
    | nil =>
      rw [chkEs_nil c2]
      simp only [evAnd] at hp
      exact hE nm vm a env 0 ρ σ g s A _ _ c1 F R hA hp
    | cons e2 es2 =>
      obtain ⟨a2, as2, rfl, c3, c4⟩ := chkEs_cons c2
      simp only [evAnd] at hp
      obtain ⟨v, σ1, r1, hp⟩ := hp.bindE
      show wpAny _ _ (boolOp pos .And (eval a env :: eval a2 env :: evalEach as2 env)) _ _ _
      unfold boolOp
      refine wpAny_bind (hE nm vm a env 0 ρ σ g s A _ _ c1 F R hA (PostE.mk r1 fun g1 s1 x e1 R1 v1 => wpAny_bind (wpAny_standAt (wpAny_bind (wpAny_holding ?_)))))
      cases ht : truth σ1 v with
      | none => rw [ht] at hp; exact hp.elim
      | some b =>
        rw [ht] at hp
        refine truth_sound R1 v1 ht fun tk => ?_
        have e3 : Ext noOwn g s g1 { s1 with toks := tk } := e1.toks
        cases b with
        | false => exact wpAny_pure (hp g1 _ _ e3 R1 v1)
        | true => exact hr.1 nm vm (a2 :: as2) env ρ σ1 g1 { s1 with toks := tk } A pos _ _ c2 (F.ext R e3) R1 hA (hp.shift e3)
  · intro nm vm l env ρ σ g s A Q E hc F R hA hp
    obtain ⟨a, as, rfl, c1, c2⟩ := chkEs_cons hc
    unfold allTrue
    cases es with
    | nil =>
      rw [chkEs_nil c2]
      simp only [evAnd] at hp
      obtain ⟨v, σ1, b, h1, h2, h3⟩ := hp.okT
      refine wpAny_bind (hT nm vm a env ρ σ g s A _ _ c1 F R hA (PostT.mk h1 h2 fun g1 s1 e1 R1 => ?_))
      cases b with
      | false => exact wpAny_pure (h3 g1 s1 e1 R1)
      | true => exact wpAny_pure (h3 g1 s1 e1 R1)
    | cons e2 es2 =>
      simp only [evAnd] at hp
      obtain ⟨v, σ1, r1, hp⟩ := hp.bindT
      cases ht : truth σ1 v with
      | none => rw [ht] at hp; exact hp.elim
      | some b =>
        rw [ht] at hp
        refine wpAny_bind (hT nm vm a env ρ σ g s A _ _ c1 F R hA (PostT.mk r1 ht fun g1 s1 e1 R1 => ?_))
        cases b with
        | false =>
          obtain ⟨v', σ', b', q1, q2, q3⟩ := hp.okT
          cases q1
          rw [ht] at q2; cases q2
          exact wpAny_pure (q3 g1 s1 e1 R1)
        | true => exact hr.2 nm vm as env ρ σ1 g1 s1 A _ _ c2 (F.ext R e1) R1 hA (hp.shift e1)
theorem sndOr_cons {e : PE} {es : PEs} (hE : SndE C c d e) (hT : SndT C c d e) (hr : SndB C c d .Or (evOr c) es) : SndB C c d .Or (evOr c) (.cons e es) := by
  constructor
  · intro nm vm l env ρ σ g s A pos Q E hc F R hA hp
    obtain ⟨a, as, rfl, c1, c2⟩ := chkEs_cons hc
    cases es with
    | nil =>
      rw [chkEs_nil c2]
      simp only [evOr] at hp
      exact hE nm vm a env 0 ρ σ g s A _ _ c1 F R hA hp
    | cons e2 es2 =>
      obtain ⟨a2, as2, rfl, c3, c4⟩ := chkEs_cons c2
      simp only [evOr] at hp
      obtain ⟨v, σ1, r1, hp⟩ := hp.bindE
      show wpAny _ _ (boolOp pos .Or (eval a env :: eval a2 env :: evalEach as2 env)) _ _ _
      unfold boolOp
      refine wpAny_bind (hE nm vm a env 0 ρ σ g s A _ _ c1 F R hA (PostE.mk r1 fun g1 s1 x e1 R1 v1 => wpAny_bind (wpAny_standAt (wpAny_bind (wpAny_holding ?_)))))
      cases ht : truth σ1 v with
      | none => rw [ht] at hp; exact hp.elim
      | some b =>
        rw [ht] at hp
        refine truth_sound R1 v1 ht fun tk => ?_
        have e3 : Ext noOwn g s g1 { s1 with toks := tk } := e1.toks
        cases b with
        | true => exact wpAny_pure (hp g1 _ _ e3 R1 v1)
        | false => exact hr.1 nm vm (a2 :: as2) env ρ σ1 g1 { s1 with toks := tk } A pos _ _ c2 (F.ext R e3) R1 hA (hp.shift e3)
  · intro nm vm l env ρ σ g s A Q E hc F R hA hp
    obtain ⟨a, as, rfl, c1, c2⟩ := chkEs_cons hc
    unfold allTrue
    cases es with
    | nil =>
      rw [chkEs_nil c2]
      simp only [evOr] at hp
      obtain ⟨v, σ1, b, h1, h2, h3⟩ := hp.okT
      refine wpAny_bind (hT nm vm a env ρ σ g s A _ _ c1 F R hA (PostT.mk h1 h2 fun g1 s1 e1 R1 => ?_))
      cases b with
      | false => exact wpAny_pure (h3 g1 s1 e1 R1)
      | true => exact wpAny_pure (h3 g1 s1 e1 R1)
    | cons e2 es2 =>
      simp only [evOr] at hp
      obtain ⟨v, σ1, r1, hp⟩ := hp.bindT
      cases ht : truth σ1 v with
      | none => rw [ht] at hp; exact hp.elim
      | some b =>
        rw [ht] at hp
        refine wpAny_bind (hT nm vm a env ρ σ g s A _ _ c1 F R hA (PostT.mk r1 ht fun g1 s1 e1 R1 => ?_))
        cases b with
        | true =>
          obtain ⟨v', σ', b', q1, q2, q3⟩ := hp.okT
          cases q1
          rw [ht] at q2; cases q2
          exact wpAny_pure (q3 g1 s1 e1 R1)
        | false => exact hr.2 nm vm as env ρ σ1 g1 s1 A _ _ c2 (F.ext R e1) R1 hA (hp.shift e1)

theorem sndE_and {es : PEs} (h : SndB C c d .And (evAnd c) es) : SndE C c d (.andE es) := by
  intro nm vm e env m ρ σ g s A Q E hc F R hA hp
  cases e <;> try (exact absurd (show false = true from hc) Bool.false_ne_true)
  rename_i op vs pos
  cases op <;> try (exact absurd (show false = true from hc) Bool.false_ne_true)
  rw [arm_eval_BoolOp]
  exact h.1 nm vm vs env ρ σ g s A pos _ _ (show chkEs es nm vm vs = true from hc) F R hA hp
theorem sndT_and {es : PEs} (h : SndB C c d .And (evAnd c) es) : SndT C c d (.andE es) := by
  intro nm vm e env ρ σ g s A Q E hc F R hA hp
  cases e <;> try (exact absurd (show false = true from hc) Bool.false_ne_true)
  rename_i op vs pos
  cases op <;> try (exact absurd (show false = true from hc) Bool.false_ne_true)
  rw [arm_isTrue_BoolOp]
  exact h.2 nm vm vs env ρ σ g s A _ _ (show chkEs es nm vm vs = true from hc) F R hA hp
theorem sndE_or {es : PEs} (h : SndB C c d .Or (evOr c) es) : SndE C c d (.orE es) := by
  intro nm vm e env m ρ σ g s A Q E hc F R hA hp
  cases e <;> try (exact absurd (show false = true from hc) Bool.false_ne_true)
  rename_i op vs pos
  cases op <;> try (exact absurd (show false = true from hc) Bool.false_ne_true)
  rw [arm_eval_BoolOp]
  exact h.1 nm vm vs env ρ σ g s A pos _ _ (show chkEs es nm vm vs = true from hc) F R hA hp
theorem sndT_or {es : PEs} (h : SndB C c d .Or (evOr c) es) : SndT C c d (.orE es) := by
  intro nm vm e env ρ σ g s A Q E hc F R hA hp
  cases e <;> try (exact absurd (show false = true from hc) Bool.false_ne_true)
  rename_i op vs pos
  cases op <;> try (exact absurd (show false = true from hc) Bool.false_ne_true)
  rw [arm_isTrue_BoolOp]
  exact h.2 nm vm vs env ρ σ g s A _ _ (show chkEs es nm vm vs = true from hc) F R hA hp
end Mine

set_option autoImplicit false
set_option backward.match.sparseCases true
set_option linter.unusedVariables false
namespace Mine
open PySem PyProof.Rows PySem.SeqAt

variable {C : Fix} {c : Cx} {σ σ' : AH} {g g' : Cfg} {h h' : Heap} {s s' : Shared} {own : Addr → Prop} {A : Around} {d : Nat} {nm : NM} {vm : VM} {env : Env} {ρ : List PV}
  {Q : Value → Shared → Prop} {E : Value → Shared → Prop}

theorem evs_len : ∀ (pes : PEs) (l : List Expr) (m : Nat) (ρ : List PV) (σ σ' : AH) (vs : List PV), chkEs pes nm vm l = true → evs c pes m ρ σ = .ok vs σ' → vs.length = l.length
  | .nil, l, m, ρ, σ, σ', vs, hc, he => by
    rw [chkEs_nil hc, ← (ok_inj he).1]; rfl
  | .cons e es, l, m, ρ, σ, σ', vs, hc, he => by
    obtain ⟨a, as, rfl, c1, c2⟩ := chkEs_cons hc
    obtain ⟨v, σ1, hr, he⟩ := bind_inv he
    obtain ⟨ws, σ2, hr2, he⟩ := bind_inv he
    rw [← (ok_inj he).1]
    exact congrArg Nat.succ (evs_len es as m ρ σ1 σ2 ws c2 hr2)

theorem PostL.okL {r : Res (List PV)} {Q : List Value → Shared → Prop} (hp : PostL C own g s r Q) : ∃ v σ1, r = .ok v σ1 ∧ ∀ g' s' x, Ext own g s g' s' → C.Rel σ1 g' s'.heap → C.VRs g' s'.heap v x → Q x s' := by
  cases r with
  | ok v σ1 => exact ⟨v, σ1, rfl, hp⟩
  | exc => exact hp.elim
  | bad => exact hp.elim

theorem sndE_tup {es : PEs} (h : SndEs C c d es) : SndE C c d (.tup es) := by
  intro nm vm e env m ρ σ g s A Q E hc F R hA hp
  cases e <;> try (exact absurd (show false = true from hc) Bool.false_ne_true)
  rename_i elts ctx pos
  obtain ⟨h1, h2⟩ := and2 (show (decide (elts.length < 1000) && chkEs es nm vm elts) = true from hc)
  have h1 := of_decide_eq_true h1
  obtain ⟨vs, σ1, r1, hp⟩ := hp.bindE
  show wpAny _ _ (standAt pos >>= fun _ => spliced (backTo pos (starEach elts env)) >>= newTuple) _ _ _
  refine wpAny_bind (wpAny_standAt (wpAny_bind (h nm vm elts env 0 ρ σ g s A pos _ _ h2 F R hA (PostL.mk r1 fun g1 s1 xs e1 R1 v1 => ?_))))
  have hl := evs_len es elts 0 ρ σ σ1 vs h2 r1
  have hl2 := v1.length
  have hp1 : PostO C σ1 g1 s1 (some (.v (.tup vs))) Q := fun g2 s2 x e2 R2 v2 => hp g2 s2 x (e1.trans e2) R2 v2
  exact wpAny_newTuple (hp1.push (tk := s1.toks) R1 (tupObj_vr (n := 0) (by simpa using v1))) (by rw [sizeLine_eq]; omega)

theorem sndE_lst {es : PEs} (h : SndEs C c d es) : SndE C c d (.lst es) := by
  intro nm vm e env m ρ σ g s A Q E hc F R hA hp
  cases e <;> try (exact absurd (show false = true from hc) Bool.false_ne_true)
  rename_i elts pos
  obtain ⟨h1, h2⟩ := and2 (show (decide (elts.length < 1000) && chkEs es nm vm elts) = true from hc)
  have h1 := of_decide_eq_true h1
  obtain ⟨vs, σ1, r1, hp⟩ := hp.bindE
  show wpAny _ _ (standAt pos >>= fun _ => spliced (backTo pos (starEach elts env)) >>= newList) _ _ _
  refine wpAny_bind (wpAny_standAt (wpAny_bind (h nm vm elts env _ ρ σ g s A pos _ _ h2 F R hA (PostL.mk r1 fun g1 s1 xs e1 R1 v1 => ?_))))
  have hl := evs_len es elts _ ρ σ σ1 vs h2 r1
  have hl2 := v1.length
  have hp1 : PostO C σ1 g1 s1 (some (.f (.list vs))) Q := fin_sound (m := m) (E := E) (hp.shift e1)
  exact wpAny_newList (hp1.made (tk := s1.toks) R1 (listObj_frs R1 (n := 0) (by simpa using v1))) (by rw [sizeLine_eq]; omega)

theorem sndE_edict : SndE C c d .edict := by
  intro nm vm e env m ρ σ g s A Q E hc F R hA hp
  cases e <;> try (exact absurd (show false = true from hc) Bool.false_ne_true)
  rename_i ks vs pos
  cases ks <;> cases vs <;> try (exact absurd (show false = true from hc) Bool.false_ne_true)
  show wpAny _ _ (standAt pos >>= fun _ => dictDisplay []) _ _ _
  refine wpAny_bind (wpAny_standAt ?_)
  have hp1 : PostO C σ g s (some (.f (.dict []))) Q := fin_sound (m := m) (E := E) hp
  show wpAny _ _ (newDict) _ _ _
  refine wpAny_newObj_type (hp1.made (tk := s.toks) R ⟨[], Heap.DictOf.new s.heap, .nil⟩)

theorem sndE_idx {a i : PE} (ha : SndE C c d a) (hi : SndE C c d i) : SndE C c d (.idx a i) := by
  intro nm vm e env m ρ σ g s A Q E hc F R hA hp
  cases e <;> try (exact absurd (show false = true from hc) Bool.false_ne_true)
  rename_i v ix pos
  obtain ⟨h1, h2⟩ := and2 (show (chkE a nm vm v && chkE i nm vm ix) = true from hc)
  obtain ⟨x, σ1, r1, hp⟩ := hp.bindE
  obtain ⟨y, σ2, r2, hp⟩ := hp.bindE
  refine Subscript_ (ha nm vm v env 0 ρ σ g s A _ _ h1 F R hA (PostE.mk r1 fun g1 s1 vx e1 R1 v1 => ?_))
  refine hi nm vm ix env 0 ρ σ1 g1 s1 A _ _ h2 (F.ext R e1) R1 hA (PostE.mk r2 fun g2 s2 vy e2 R2 v2 => ?_)
  refine getAt_tail R2 (VR_ext R1 e2 Off.none v1) v2 ?_ (fin_sound (m := 0) (E := E) (hp.shift (e1.trans e2)))
  have := chk_plain h2
  cases ix <;> first | rfl | cases this

/-! ### calls -/
theorem evalArgs_any {M : Model} {f : Value} {es : List Expr} {pes : PEs} {Q : Args → Shared → Prop} {pos : Pos} (hc : chkEs pes nm vm es = true)
    (h : wpAny M A (spliced (backTo pos (starEach es env))) (fun vs s' => Q ⟨vs, []⟩ s') E s) : wpAny M A (evalArgs f true (backTo pos (starEach es env)) []) Q E s := by
  cases pes with
  | nil =>
    rw [chkEs_nil hc] at h ⊢
    unfold evalArgs
    refine wpAny_bind (wpAny_mono h (fun vs s' h' => wpAny_bind (wpAny_pure ?_)) fun _ _ x => x)
    refine wpAny_holding ?_
    exact wpAny_bind (wpAny_pure (wpAny_bind (wpAny_pure (wpAny_pure h'))))
  | cons e es' =>
    obtain ⟨a, as, rfl, c1, c2⟩ := chkEs_cons hc
    have e1 : backTo pos (starEach (a :: as) env) = (false, eval a env) :: backTo pos (starEach as env) := by rw [starEach_plain (chk_plain c1)]; rfl
    rw [e1] at h ⊢
    exact Calls.evalArgs_plain h
theorem plain_args : ∀ (pes : PEs) (es : List Expr) {pos : Pos}, chkEs pes nm vm es = true → (backTo pos (starEach es env)).any (·.1) = false
  | .nil, es, pos, hc => by rw [chkEs_nil hc]; rfl
  | .cons e es', es, pos, hc => by
    obtain ⟨a, as, rfl, c1, c2⟩ := chkEs_cons hc
    have e1 : backTo pos (starEach (a :: as) env) = (false, eval a env) :: backTo pos (starEach as env) := by rw [starEach_plain (chk_plain c1)]; rfl
    rw [e1, List.any_cons, plain_args es' as c2]; rfl

theorem call_chk {f : Str} {args : PEs} {e : Expr} (hc : chkE (.call f args) nm vm e = true) : ∃ p as pos, e = .Call (.Name f p) as [] pos ∧ isGlob (nm.lookup f) = true ∧ plainName f = true ∧ chkEs args nm vm as = true := by
  obtain ⟨fe, as, kws, pos, rfl⟩ : ∃ fe as kws pos, e = .Call fe as kws pos := by cases e <;> first | exact ⟨_, _, _, _, rfl⟩ | exact absurd (show false = true from hc) Bool.false_ne_true
  obtain ⟨x, p, rfl, rfl⟩ : ∃ x p, fe = .Name x p ∧ kws = [] := by cases fe <;> cases kws <;> first | exact ⟨_, _, rfl, rfl⟩ | exact absurd (show false = true from hc) Bool.false_ne_true
  obtain ⟨h123, h4⟩ := and2 (show (x == f && isGlob (nm.lookup x) && plainName x && chkEs args nm vm as) = true from hc)
  obtain ⟨h12, h3⟩ := and2 h123
  obtain ⟨h1, h2⟩ := and2 h12
  have h1 : x = f := by simpa using h1
  subst h1
  exact ⟨p, as, pos, rfl, h2, h3, h4⟩

theorem eval_Call_Name (x : Str) (p : Pos) (as : List Expr) (pos : Pos) : eval (.Call (.Name x p) as [] pos) env = (do callWith pos (← eval (.Name x p) env) [] (backTo pos (starEach as env)) []) := rfl

theorem sndE_call (K : C.OK) (X : CxOK C c d) {f : Str} {args : PEs} (h : SndEs C c d args) : SndE C c d (.call f args) := by
  intro nm vm e env m ρ σ g s A Q E hc F R hA hp
  obtain ⟨p, as, pos, rfl, h2, h3, h4⟩ := call_chk hc
  obtain ⟨vs, σ1, r1, hp⟩ := hp.bindE
  have hnb : c.cal f vs σ1 ≠ .bad := fun q => by rw [q] at hp; exact hp
  obtain ⟨a, o, fd, z1, z2, z3⟩ := X.fnv f vs σ1 hnb
  rw [eval_Call_Name]
  refine wpAny_bind (Calls.Name_function_global F.kind (isGlob_kind F h2) (Calls.loadGlobal_global (globNs K R F) z1 ?_) (plainName_debug h3))
  refine Calls.callWith_function (o := o) (fd := fd) (evalArgs_any h4 (h nm vm as env 0 ρ σ g s A pos _ _ h4 F R hA (PostL.mk r1 fun g1 s1 xs e1 R1 v1 => ⟨⟨R1.rel.base a o z2, z3⟩, ?_⟩)))
  exact X.cal f a vs xs σ1 g1 s1 A Q E z1 hA R1 v1 (hp.shift e1)


theorem boot_bi (K : C.OK) (b : BI) : C.mb b.word = some b.callee := by
  cases b
  case isinst t =>
    show C.mb "isinstance" = some (.builtin "isinstance")
    rw [K.builtins _ (by decide)]; decide +kernel
  all_goals (rw [K.builtins _ (by decide)]; decide +kernel)
theorem boot_ty (K : C.OK) (t : Ty) : C.mb t.word = some t.val := by
  cases t <;> (rw [K.builtins _ (by decide)]; decide +kernel)
theorem bi_words (b : BI) : b.word ∈ biWords := by
  cases b
  case isinst t => show ("isinstance" : Str) ∈ biWords; decide
  all_goals decide
theorem ty_words (t : Ty) : t.word ∈ biWords := by cases t <;> decide

theorem name_bi (K : C.OK) (X : CxOK C c d) (F : FR C nm vm env ρ g s.heap) (R : C.Rel σ g s.heap) {x : Str} {p : Pos} {v : Value} (h2 : isGlob (nm.lookup x) = true) (h3 : plainName x = true) (hw : x ∈ biWords) (hv : C.mb x = some v) (h : Q v s) :
    wpAny (model C.prog C.w) A (eval (.Name x p) env) Q E s :=
  Calls.Name_function_global F.kind (isGlob_kind F h2) (Calls.loadGlobal_builtin (globNs K R F) (X.bi x hw) (bltNs K R F) hv h) (plainName_debug h3)

/-- the other built-ins -/
noncomputable def BI.plain : BI → Bool
  | .isinst _ => false
  | _ => true

theorem bi_chk {b : BI} {args : PEs} {e : Expr} (hc : chkE (.bi b args) nm vm e = true) : ∃ x p as pos, e = .Call (.Name x p) as [] pos ∧ isGlob (nm.lookup x) = true ∧ x = b.word ∧ plainName x = true ∧
    ((b.plain = true ∧ chkEs args nm vm as = true) ∨ (∃ t e y p', b = .isinst t ∧ as = [e, .Name y p'] ∧ y = t.word ∧ isGlob (nm.lookup y) = true ∧ plainName y = true ∧ chkEs args nm vm [e] = true) ∨ False) := by
  obtain ⟨fe, as, kws, pos, rfl⟩ : ∃ fe as kws pos, e = .Call fe as kws pos := by cases e <;> first | exact ⟨_, _, _, _, rfl⟩ | exact absurd (show false = true from hc) Bool.false_ne_true
  obtain ⟨x, p, rfl, rfl⟩ : ∃ x p, fe = .Name x p ∧ kws = [] := by cases fe <;> cases kws <;> first | exact ⟨_, _, rfl, rfl⟩ | exact absurd (show false = true from hc) Bool.false_ne_true
  obtain ⟨h123, h4⟩ := and2 hc
  obtain ⟨h12, h3⟩ := and2 h123
  obtain ⟨h1, h2⟩ := and2 h12
  have h2 : x = b.word := by simpa using h2
  refine ⟨x, p, as, pos, rfl, h1, h2, h3, ?_⟩
  cases b with
  | isinst t =>
    rcases as with _ | ⟨e, _ | ⟨e2, _ | ⟨e3, as⟩⟩⟩
    · cases h4
    · cases h4
    · cases e2 <;> try cases h4
      rename_i y p'
      obtain ⟨q123, q4⟩ := and2 h4
      obtain ⟨q12, q3⟩ := and2 q123
      obtain ⟨q1, q2⟩ := and2 q12
      exact .inr (.inl ⟨t, e, y, p', rfl, rfl, by simpa using q1, q2, q3, q4⟩)
    · cases e2 <;> cases h4
  | _ => exact .inl ⟨rfl, h4⟩

theorem sndE_bi (K : C.OK) (X : CxOK C c d) {b : BI} {args : PEs} (h : SndEs C c d args) (hh : ∀ e es, args = .cons e es → SndE C c d e) : SndE C c d (.bi b args) := by
  intro nm vm e env m ρ σ g s A Q E hc F R hA hp
  obtain ⟨x, p, as, pos, rfl, h1, h2, h3, h4⟩ := bi_chk hc
  obtain ⟨vs, σ1, r1, hp⟩ := hp.bindE
  rw [eval_Call_Name]
  refine wpAny_bind (name_bi K X F R h1 h3 (h2 ▸ bi_words b) (h2 ▸ boot_bi K b) ?_)
  have hp1 : ∀ {g1 s1}, Ext noOwn g s g1 s1 → PostO C σ1 g1 s1 (biP σ1 b vs) Q := fun e1 => fin_sound (m := m) (E := E) (hp.shift e1)
  rcases h4 with ⟨hb1, h4⟩ | ⟨t, e, y, p', rfl, rfl, h5, h6, h7, h8⟩ | h4
  · have key : ∀ {g1 s1 xs}, Ext noOwn g s g1 s1 → C.Rel σ1 g1 s1.heap → C.VRs g1 s1.heap vs xs → wpAny (model C.prog C.w) A (call b.callee xs) Q E s1 := fun e1 R1 v1 => by
      have := bi_sound (E := E) K hA R1 v1 (hp1 e1)
      have hm : b.more = [] := by cases b <;> first | rfl | cases hb1
      rw [hm, List.append_nil] at this
      exact this
    have hargs := fun (P : List Value → Shared → Prop) (hP : ∀ g' s' x, Ext noOwn g s g' s' → C.Rel σ1 g' s'.heap → C.VRs g' s'.heap vs x → P x s') => h nm vm as env 0 ρ σ g s A pos P E h4 F R hA (PostL.mk r1 hP)
    have hplain := plain_args (env := env) args as (pos := pos) h4
    cases b
    case isinst => cases hb1
    all_goals first
      | exact Calls.callWith_builtin hplain (evalArgs_any h4 (hargs _ fun g1 s1 xs e1 R1 v1 => key e1 R1 v1))
      | exact PySem.callWith_type hplain (evalArgs_any h4 (hargs _ fun g1 s1 xs e1 R1 v1 => key e1 R1 v1))
  · obtain ⟨pe, hpe⟩ : ∃ pe, args = .cons pe .nil := by
      cases args with
      | nil => cases h8
      | cons pe pes => cases pes with
        | nil => exact ⟨pe, rfl⟩
        | cons => obtain ⟨_, _, q, _, q2⟩ := chkEs_cons h8; cases q; cases q2
    have hst : backTo pos (starEach [e, .Name y p'] env) = backTo pos (starEach [e] env) ++ [(false, eval (.Name y p') env)] := by
      obtain ⟨_, _, q, q1, _⟩ := chkEs_cons (hpe ▸ h8); cases q
      rw [starEach_plain (chk_plain q1), starEach_plain (chk_plain q1)]; rfl
    obtain ⟨_, _, q, q1, _⟩ := chkEs_cons (hpe ▸ h8); cases q
    have e1 : backTo pos (starEach [e] env) = [(false, eval e env)] := by rw [starEach_plain (chk_plain q1)]; rfl
    rw [hst, e1]
    have hE := hh pe .nil hpe
    subst hpe
    obtain ⟨v, σ2, hr, r1⟩ := bind_inv r1
    obtain ⟨ws, σ3, hr3, r1⟩ := bind_inv r1
    obtain ⟨rfl, rfl⟩ := ok_inj hr3
    obtain ⟨rfl, rfl⟩ := ok_inj r1
    refine Calls.callWith_builtin rfl (Calls.evalArgs_plain (Calls.spliced_cons (hE nm vm e env 0 ρ σ g s A _ _ q1 F R hA (PostE.mk hr fun g1 s1 x x1 R1 v1 => ?_))))
    refine Calls.spliced_cons (name_bi K X (F.ext R x1) R1 h6 h7 (h5 ▸ ty_words t) (h5 ▸ boot_ty K t) (Calls.spliced_nil ?_))
    exact bi_sound (E := E) K hA R1 (.cons v1 .nil) (hp1 x1)
  · exact h4.elim

/-! ### methods of lists and dicts -/
theorem ty_list (R : C.Rel σ g s.heap) {v : PV} {x : Value} (hv : C.VR g s.heap v x) (ht : isTy σ .list v = some true) : ∃ a ob, x = .ref a ∧ s.heap.get? a = some ob ∧ ob.cls = .type "list" ∧ ob.dict = none := by
  have hd := deref_sound R hv
  have ht : isTyD .list (deref σ v) = some true := ht
  generalize deref σ v = w at hd ht
  cases w with
  | lst l => obtain ⟨a, vs, rfl, ⟨n, e⟩, _⟩ := hd; exact ⟨_, _, rfl, e, rfl, rfl⟩
  | _ => cases ht
theorem ty_dict (R : C.Rel σ g s.heap) {v : PV} {x : Value} (hv : C.VR g s.heap v x) (ht : isTy σ .dict v = some true) : ∃ a kvs, x = .ref a ∧ s.heap.DictOf (strKind C.prog C.w) a kvs := by
  have hd := deref_sound R hv
  have ht : isTyD .dict (deref σ v) = some true := ht
  generalize deref σ v = w at hd ht
  cases w with
  | dct l => obtain ⟨a, kvs, rfl, _, h1, _⟩ := hd; exact ⟨_, _, rfl, h1⟩
  | _ => cases ht

theorem method_on (R : C.Rel σ g s.heap) {m : BM} {v : PV} {x : Value} {pos : Pos} {trees : List (Bool × Sem Value)} (hv : C.VR g s.heap v x) (ht : isTy σ m.ty v = some true)
    (h : wpAny (model C.prog C.w) A (callWith pos (.builtin m.id) [x] trees []) Q E s) : MethodOnS C.prog C.w A E m.word x pos trees Q s := by
  cases m with
  | append =>
    obtain ⟨a, ob, rfl, h1, h2, h3⟩ := ty_list R hv ht
    exact ⟨"list", _, PySem.F.plainAttrs_list, PySem.slot_list_append, PySem.type_list_append, ⟨ob, h1, h2⟩, fun b e => by cases e; exact ⟨ob, h1, h3⟩, h⟩
  | get =>
    obtain ⟨a, kvs, rfl, h1⟩ := ty_dict R hv ht
    exact ⟨"dict", _, PySem.F.plainAttrs_dict, PySem.F.slot_dict_get, PySem.F.type_dict_get, h1.typeIs, h1.mapOf.noDict, h⟩

theorem base_plain {o : Expr} {name : Str} {whole : Sem Value} (h : plainBase o = true) : attributeBase o name env whole = whole := by
  unfold attributeBase
  split
  · cases h
  · rfl

theorem meth_chk {o : PE} {m : BM} {args : PEs} {e : Expr} (hc : chkE (.meth o m args) nm vm e = true) : ∃ o' apos as pos, e = .Call (.Attribute o' m.word apos) as [] pos ∧ plainBase o' = true ∧ (apos.endLine == pos.line) = true ∧ as.length < 20 ∧ chkE o nm vm o' = true ∧ chkEs args nm vm as = true := by
  obtain ⟨fe, as, kws, pos, rfl⟩ : ∃ fe as kws pos, e = .Call fe as kws pos := by cases e <;> first | exact ⟨_, _, _, _, rfl⟩ | exact absurd (show false = true from hc) Bool.false_ne_true
  obtain ⟨o', name, apos, rfl, rfl⟩ : ∃ o' name apos, fe = .Attribute o' name apos ∧ kws = [] := by cases fe <;> cases kws <;> first | exact ⟨_, _, _, rfl, rfl⟩ | exact absurd (show false = true from hc) Bool.false_ne_true
  obtain ⟨h12345, h6⟩ := and2 hc
  obtain ⟨h1234, h5⟩ := and2 h12345
  obtain ⟨h123, h4⟩ := and2 h1234
  obtain ⟨h12, h3⟩ := and2 h123
  obtain ⟨h1, h2⟩ := and2 h12
  have h1 : name = m.word := by simpa using h1
  subst h1
  exact ⟨o', apos, as, pos, rfl, h2, h3, of_decide_eq_true h4, h5, h6⟩

theorem sndE_meth {o : PE} {m : BM} {args : PEs} (ho : SndE C c d o) (h : SndEs C c d args) : SndE C c d (.meth o m args) := by
  intro nm vm e env md ρ σ g s A Q E hc F R hA hp
  obtain ⟨o', apos, as, pos, rfl, h1, h2, h3, h4, h5⟩ := meth_chk hc
  obtain ⟨x, σ1, r1, hp⟩ := hp.bindE
  split at hp
  · rename_i ht
    obtain ⟨vs, σ2, r2, hp⟩ := hp.bindE
    have hplain := plain_args (env := env) args as (pos := pos) h5
    refine wpAny_Call_method_lateS (base_plain h1) ?_ h2 (ho nm vm o' env 0 ρ σ g s A _ _ h4 F R hA (PostE.mk r1 fun g1 s1 vx e1 R1 v1 => method_on R1 v1 ht ?_))
    · have : (backTo pos (starEach as env)).all (fun x => !x.1) = true := by
        rw [List.all_eq_true]; intro y hy
        rw [List.any_eq_false] at hplain
        simpa using hplain y hy
      rw [this]
      simp only [Bool.true_and]
      show (true && decide (as.length + 0 + 0 < 30)) = true
      simp; omega
    · refine Calls.callWith_builtin hplain (evalArgs_any h5 (h nm vm as env 0 ρ σ1 g1 s1 A pos _ _ h5 (F.ext R e1) R1 hA (PostL.mk r2 fun g2 s2 xs e2 R2 v2 => ?_)))
      refine bm_sound hA R2 (VR_ext R1 e2 Off.none v1) v2 ?_
      cases hq : bmP σ2 m x vs with
      | none => rw [hq] at hp; exact hp.elim
      | some q => rw [hq] at hp; exact fun g3 s3 y e3 R3 v3 => hp g3 s3 y ((e1.trans e2).trans e3) R3 v3
  · exact hp.elim
end Mine

set_option autoImplicit false
set_option backward.match.sparseCases true
set_option linter.unusedVariables false
namespace Mine
open PySem PyProof.Rows PySem.SeqAt

variable {C : Fix} {c : Cx} {σ σ' : AH} {g g' : Cfg} {h h' : Heap} {s s' : Shared} {own : Addr → Prop} {A : Around} {d : Nat} {nm : NM} {vm : VM} {env : Env} {ρ : List PV}
  {E : Value → Shared → Prop}

theorem set_get {ρ : List PV} {i j : Nat} {v w : PV} (h : (ρ.set i v)[j]? = some w) : (j = i ∧ w = v) ∨ (j ≠ i ∧ ρ[j]? = some w) := by
  by_cases hj : j = i
  · subst hj
    have hlt : j < (ρ.set j v).length := (List.getElem?_eq_some_iff.mp h).1
    rw [List.length_set] at hlt
    rw [List.getElem?_set_self hlt] at h
    cases h; exact .inl ⟨rfl, rfl⟩
  · rw [List.getElem?_set_ne (Ne.symm hj)] at h; exact .inr ⟨hj, h⟩

theorem ns_cell_ne {h : Heap} {a b : Addr} {m : Str → Option Value} {o : Option Value} (x : h.Ns a m) (y : h.IsCell b o) : b ≠ a := by
  rintro rfl
  obtain ⟨ob, es, ep, h1, h2, _⟩ := x
  obtain ⟨oc, h3, h4⟩ := y
  rw [h1] at h3; cases h3; rw [h2] at h4; cases h4

theorem store_sound {M : Model} {Q : Unit → Shared → Prop} (F : FR C nm vm env ρ g s.heap) (R : C.Rel σ g s.heap) {x : Str} {i : Nat} {v : PV} {y : Value} (hx : vm.lookup x = some i) (ho : isOwn (nm.lookup x) = true) (hv : C.VR g s.heap v y)
    (hoL : own env.locals) (hoC : nm.lookup x = some .cell → ∀ c, env.cells.lookup x = some c → own c)
    (hq : ∀ s', FR C nm vm env (ρ.set i v) g s'.heap → C.Rel σ g s'.heap → Ext own g s g s' → Q () s') : wpAny M A (storeName env x y) Q E s := by
  have hkind : env.kindOf x = nm.lookup x := by rw [← F.names]; rfl
  cases hk : nm.lookup x with
  | none => rw [hk] at ho; cases ho
  | some k =>
    rw [hk] at ho hkind
    cases k <;> first | cases ho | skip
    · -- local
      obtain ⟨m, n1, n2⟩ := F.ns
      refine wpAny_storeName_local hkind n1 (fun h' hn' hs' => ?_) (by rw [F.kind]; rfl)
      have hk' : ∀ b o, b ≠ env.locals → s.heap.get? b = some o → h'.get? b = some o := fun b o hb e => by rw [hs'.2 b hb]; exact e
      have kept : Kept g s.heap h' := .of_but hk' F.offL
      refine hq _ ⟨F.kind, F.names, F.glob, F.blt, F.inj, ⟨_, hn', fun z j w a1 a2 a3 a4 => ?_⟩, fun z j a1 a2 => ?_, F.offL, F.offC, fun z cc b1 => ?_, F.apart⟩ (R.kept kept) (Ext.heap (fun b o e _ hb => hk' b o (fun q => hb (q ▸ hoL)) e) fun b hb => ?_)
      · rcases set_get a3 with ⟨rfl, rfl⟩ | ⟨hj, a5⟩
        · have := F.inj z x _ a1 hx; subst this
          exact ⟨y, by simp, VR_kept (C := C) kept hv⟩
        · have hzx : z ≠ x := fun q => hj (by subst q; rw [hx] at a1; exact (Option.some.inj a1).symm)
          obtain ⟨u, u1, u2⟩ := n2 z j w a1 a2 a5 a4
          exact ⟨u, by simp [hzx, u1], VR_kept (C := C) kept u2⟩
      · obtain ⟨cc, o, b1, b2, b3⟩ := F.cl z j a1 a2
        refine ⟨cc, o, b1, b2.sameBut hs' (ns_cell_ne n1 b2), fun w a3 a4 => ?_⟩
        rcases set_get a3 with ⟨rfl, rfl⟩ | ⟨hj, a5⟩
        · have := F.inj z x _ a1 hx; subst this
          rw [hk] at a2; cases a2
        · obtain ⟨u, u1, u2⟩ := b3 w a5 a4
          exact ⟨u, u1, VR_kept (C := C) kept u2⟩
      · obtain ⟨o, b2⟩ := F.cliv z cc b1
        exact ⟨o, b2.sameBut hs' (ns_cell_ne n1 b2)⟩
      · by_cases hba : b = env.locals
        · subst hba; obtain ⟨o, ho⟩ := Heap.Ns.live hn'; exact isSome_of ho
        · obtain ⟨o, ho⟩ := Option.isSome_iff_exists.mp hb; exact isSome_of (hk' b o hba ho)
    · -- cell
      obtain ⟨cc, o, b1, b2, b3⟩ := F.cl x i hx (by rw [hk]; rfl)
      obtain ⟨m, n1, n2⟩ := F.ns
      refine wpAny_storeName_cell F.kind hkind b1 b2 fun h' hc' hs' => ?_
      have hk' : ∀ b o, b ≠ cc → s.heap.get? b = some o → h'.get? b = some o := fun b o hb e => by rw [hs'.2 b hb]; exact e
      have kept : Kept g s.heap h' := .of_but hk' (F.offC x cc b1)
      have hne := ns_cell_ne n1 b2
      refine hq _ ⟨F.kind, F.names, F.glob, F.blt, F.inj, ⟨m, n1.sameBut hs' (Ne.symm hne), fun z j w a1 a2 a3 a4 => ?_⟩, fun z j a1 a2 => ?_, F.offL, F.offC, fun z c' d1 => ?_, F.apart⟩ (R.kept kept) (Ext.heap (tk := s.toks) (fun b o e _ hb => hk' b o (fun q => hb (q ▸ hoC hk cc b1)) e) fun b hb => ?_)
      · rcases set_get a3 with ⟨rfl, rfl⟩ | ⟨hj, a5⟩
        · have := F.inj z x _ a1 hx; subst this
          rw [hk] at a2; cases a2
        · obtain ⟨u, u1, u2⟩ := n2 z j w a1 a2 a5 a4
          exact ⟨u, u1, VR_kept (C := C) kept u2⟩
      · obtain ⟨c', o', d1, d2, d3⟩ := F.cl z j a1 a2
        by_cases hzx : z = x
        · subst hzx
          rw [b1] at d1; cases d1
          refine ⟨cc, some y, b1, hc', fun w a3 a4 => ?_⟩
          rcases set_get a3 with ⟨_, rfl⟩ | ⟨hj, a5⟩
          · exact ⟨y, rfl, VR_kept (C := C) kept hv⟩
          · rw [hx] at a1; exact absurd (Option.some.inj a1).symm hj
        · have hcc : c' ≠ cc := fun q => hzx (F.apart z x cc (q ▸ d1) b1)
          refine ⟨c', o', d1, d2.sameBut hs' hcc, fun w a3 a4 => ?_⟩
          rcases set_get a3 with ⟨rfl, _⟩ | ⟨hj, a5⟩
          · exact absurd (F.inj z x _ a1 hx) hzx
          · obtain ⟨u, u1, u2⟩ := d3 w a5 a4
            exact ⟨u, u1, VR_kept (C := C) kept u2⟩
      · by_cases hcc : c' = cc
        · subst hcc; exact ⟨_, hc'⟩
        · obtain ⟨o', d2⟩ := F.cliv z c' d1
          exact ⟨o', d2.sameBut hs' hcc⟩
      · by_cases hba : b = cc
        · subst hba; obtain ⟨o, ho, _⟩ := hc'; exact isSome_of ho
        · obtain ⟨o, ho⟩ := Option.isSome_iff_exists.mp hb; exact isSome_of (hk' b o hba ho)

theorem assign_name {M : Model} {Q : Unit → Shared → Prop} {x : Str} {p : Pos} {y : Value} (h : wpAny M A (storeName env x y) Q E s) : wpAny M A (assign (.Name x p) env y) Q E s := by
  show wpAny M A (standAt p >>= fun _ => bindName env x y) Q E s
  exact wpAny_bind (wpAny_standAt (wpAny_bindName h))

theorem chkNames_cons {i : Nat} {is : List Nat} {es : List Expr} (h : chkNames nm vm (i :: is) es = true) : ∃ x p es', es = .Name x p :: es' ∧ vm.lookup x = some i ∧ isOwn (nm.lookup x) = true ∧ chkNames nm vm is es' = true := by
  cases es with
  | nil => cases h
  | cons e es =>
    cases e <;> first | (unfold chkNames at h; cases h) | skip
    rename_i x p
    obtain ⟨h12, h3⟩ := and2 (show (vm.lookup x == some i && isOwn (nm.lookup x) && chkNames nm vm is es) = true from h)
    obtain ⟨h1, h2⟩ := and2 h12
    exact ⟨x, p, es, rfl, by simpa using h1, h2, h3⟩
theorem chkNames_nil {es : List Expr} (h : chkNames nm vm [] es = true) : es = [] := by
  cases es with
  | nil => rfl
  | cons e es => cases h

theorem assignIn {Q : Unit → Shared → Prop} (hoff : Off own g) (hoL : own env.locals) : ∀ (is : List Nat) (es : List Expr) (l : List PV) (xs : List Value) (ρ : List PV) (s : Shared), chkNames nm vm is es = true → l.length = is.length → FR C nm vm env ρ g s.heap → C.Rel σ g s.heap → C.VRs g s.heap l xs →
    (∀ x ∈ namesOf es, nm.lookup x = some .cell → ∀ c, env.cells.lookup x = some c → own c) →
    (∀ s', FR C nm vm env (setAll ρ is l) g s'.heap → C.Rel σ g s'.heap → Ext own g s g s' → Q () s') → wpAny (model C.prog C.w) A (assignInOrder ((assignEach es env).map (·.2)) xs) Q E s := by
  intro is
  induction is with
  | nil =>
    intro es l xs ρ s hc hl F R hv hoC hq
    rw [chkNames_nil hc]
    have : l = [] := List.length_eq_zero_iff.mp hl
    subst this; cases hv
    exact wpAny_pure (hq s F R (Ext.refl g s))
  | cons i is ih =>
    intro es l xs ρ s hc hl F R hv hoC hq
    obtain ⟨x, p, es', rfl, h1, h2, h3⟩ := chkNames_cons hc
    cases hv with
    | nil => cases hl
    | @cons v y l xs hv hvs =>
      show wpAny _ _ (holding xs (assign (.Name x p) env y) >>= fun _ => assignInOrder ((assignEach es' env).map (·.2)) xs) _ _ _
      refine wpAny_bind (wpAny_holding (assign_name (store_sound F R h1 h2 hv hoL (hoC x (List.mem_cons_self ..)) fun s1 F1 R1 e1 => ?_)))
      refine ih es' l xs (ρ.set i v) s1 h3 (by simpa using hl) F1 R1 (VRs_ext R e1 hoff hvs) (fun z hz => hoC z (List.mem_cons_of_mem _ hz)) fun s2 F2 R2 e2 => hq s2 F2 R2 (e1.trans e2)

theorem assignEach_names : ∀ (is : List Nat) (es : List Expr), chkNames nm vm is es = true → (assignEach es env).length = is.length ∧ (assignEach es env).findIdx? (·.1) = none
  | [], es, h => by rw [chkNames_nil h]; exact ⟨rfl, rfl⟩
  | i :: is, es, h => by
    obtain ⟨x, p, es', rfl, _, _, h3⟩ := chkNames_cons h
    obtain ⟨q1, q2⟩ := assignEach_names is es' h3
    have e : assignEach (.Name x p :: es') env = (false, assign (.Name x p) env) :: assignEach es' env := rfl
    rw [e]
    exact ⟨by simp [q1], by rw [List.findIdx?_cons]; simp [q2]⟩

theorem assign_sound {Q : Unit → Shared → Prop} (hh : A.handled = none) (hoff : Off own g) (hoL : own env.locals) {t : Tgt} {tg : Expr} {v : PV} {y : Value} {ρ1 : List PV} (hc : chkT nm vm t tg = true) (F : FR C nm vm env ρ g s.heap) (R : C.Rel σ g s.heap) (hv : C.VR g s.heap v y)
    (hoC : ∀ x ∈ tgtNames tg, nm.lookup x = some .cell → ∀ c, env.cells.lookup x = some c → own c) (hb : bindT t v ρ = some ρ1)
    (hq : ∀ s', FR C nm vm env ρ1 g s'.heap → C.Rel σ g s'.heap → Ext own g s g s' → Q () s') : wpAny (model C.prog C.w) A (assign tg env y) Q E s := by
  cases t with
  | one i =>
    cases tg <;> first | (unfold chkT at hc; cases hc) | skip
    rename_i x p
    obtain ⟨h1, h2⟩ := and2 (show (vm.lookup x == some i && isOwn (nm.lookup x)) = true from hc)
    cases hb
    exact assign_name (store_sound F R (by simpa using h1) h2 hv hoL (hoC x (List.mem_singleton.mpr rfl)) hq)
  | many is =>
    cases tg <;> first | (unfold chkT at hc; cases hc) | skip
    rename_i es ctx p
    have hc' : chkNames nm vm is es = true := hc
    cases hv with
    | @tup l a vs h0 hl hr =>
      have hb' : (if l.length = is.length then some (setAll ρ is l) else none) = some ρ1 := hb
      split at hb'
      · rename_i hlen
        cases hb'
        obtain ⟨q1, q2⟩ := assignEach_names (env := env) is es hc'
        have hsz := hr.size
        refine wpAny_assign_Tuple hh (isTuple_of hl) (by lia) q2 fun h' hk => ?_
        have hk' : ∀ b o, s.heap.get? b = some o → h'.get? b = some o := fun b o e => hk b o (Nat.ne_of_lt (Heap.lt_size e)) e
        have e1 : Ext noOwn g s g { s with heap := h' } := Ext.all (tk := s.toks) hk'
        exact assignIn hoff hoL is es l vs.toList ρ { s with heap := h' } hc' hlen (F.ext R e1) (R.kept (.of_all hk')) (VRs_kept (C := C) (.of_all hk') hr) hoC fun s2 F2 R2 e2 => hq s2 F2 R2 (e1.weaken.trans e2)
      · cases hb'
    | _ => cases hb

theorem owned_go {Q : Unit → Shared → Prop} {tg : Expr} {I : Addr} {y : Value} (hp : PlainIter s.heap I ∨ (∀ es ctx p, tg ≠ .Tuple es ctx p)) (hl : ∀ es p, tg ≠ .List es p) (h : Q () s) : wpAny (model C.prog C.w) A (letOwnedTupleGo tg (.ref I) y) Q E s := by
  cases tg <;> first | exact wpAny_pure h | skip
  · exact absurd rfl (hl _ _)
  · rcases hp with ⟨ob, n, h1, h2, h3⟩ | hp
    · unfold letOwnedTupleGo
      cases y <;> first | exact wpAny_pure h | skip
      refine wpAny_bind (wpAny_load h1 ?_)
      rw [h2]
      cases ob.data <;> first | exact wpAny_pure h | skip
      simp only [h3, Bool.false_and, Bool.false_eq_true, if_false]
      exact wpAny_pure h
    · exact absurd rfl (hp _ _ _)
end Mine

set_option autoImplicit false
set_option backward.match.sparseCases true
set_option linter.unusedVariables false
namespace Mine
open PySem PyProof.Rows PySem.SeqAt

variable {C : Fix} {c : Cx} {σ σ' : AH} {g g' : Cfg} {h h' : Heap} {s s' : Shared} {own : Addr → Prop} {A : Around} {d : Nat} {nm : NM} {vm : VM} {env : Env} {ρ : List PV}
  {E : Value → Shared → Prop}

/-! ### locks -/
noncomputable def Cfg.withLk (g : Cfg) (L : Addr → Prop) : Cfg := ⟨g.μ, g.Φ, L⟩
theorem VR_lk {L : Addr → Prop} {v : PV} {x : Value} (hv : C.VR g h v x) : C.VR (g.withLk L) h v x := VR.mono (g := g) (g' := g.withLk L) (List.prefix_refl g.μ) (fun _ q => q) (fun _ _ _ e => e) hv
theorem VRs_lk {L : Addr → Prop} {v : List PV} {x : List Value} (hv : C.VRs g h v x) : C.VRs (g.withLk L) h v x := VRs.mono (g := g) (g' := g.withLk L) (List.prefix_refl g.μ) (fun _ q => q) (fun _ _ _ e => e) hv
theorem VRd_lk {L : Addr → Prop} {v : List (Str × PV)} {x : List (Str × Value)} (hv : C.VRd g h v x) : C.VRd (g.withLk L) h v x := VRd.mono (g := g) (g' := g.withLk L) (List.prefix_refl g.μ) (fun _ q => q) (fun _ _ _ e => e) hv

theorem relock (R : C.Rel σ g h) {L : Addr → Prop} {σ' : AH} (hl : σ'.length = σ.length) (hlk : ∀ a, L a → a ∈ g.μ) (ho : ∀ (i : Nat) o a, σ'[i]? = some o → g.μ[i]? = some a → C.OR (g.withLk L) h o a) : C.Rel σ' (g.withLk L) h where
  rel := { len := R.rel.len.trans hl.symm, nodup := R.rel.nodup, disj := R.rel.disj, lkμ := hlk, live := R.rel.live, base := R.rel.base, baseμ := R.rel.baseμ, objs := ho }
  bas := R.bas
  sys := R.sys

/-- the addresses that are locked while v is gone through -/
noncomputable def lockSet (g : Cfg) (v : PV) : Addr → Prop := fun b => g.lk b ∨ ∃ i, v = .ref i ∧ g.μ[i]? = some b

theorem lockAt_len {i : Nat} {b : Bool} : (lockAt σ i b).length = σ.length := by
  unfold lockAt; split <;> simp
theorem lockV_len {v : PV} {b : Bool} : (lockV σ v b).length = σ.length := by
  unfold lockV; split
  · exact lockAt_len
  · rfl
theorem lockAt_ne {i j : Nat} {b : Bool} (h : j ≠ i) : (lockAt σ i b)[j]? = σ[j]? := by
  unfold lockAt; split
  · rw [List.getElem?_set_ne (Ne.symm h)]
  · rw [List.getElem?_set_ne (Ne.symm h)]
  · rfl
noncomputable def AObj.flag (b : Bool) : AObj → AObj
  | .list _ l => .list b l
  | .dict _ l => .dict b l
theorem lockAt_self {i : Nat} {b : Bool} : (lockAt σ i b)[i]? = (σ[i]?).map (AObj.flag b) := by
  unfold lockAt
  cases ho : σ[i]? with
  | none => simp [ho]
  | some o =>
    have hlt := (List.getElem?_eq_some_iff.mp ho).1
    cases o <;> simp [List.getElem?_set_self hlt, ho, AObj.flag]

theorem OR_flag {L : Addr → Prop} {o o' : AObj} {a : Addr} (hor : C.OR g h o a) (b : Bool) (ho : o' = AObj.flag b o) (hb : b = true ↔ L a) : C.OR (g.withLk L) h o' a := by
  subst ho
  cases o with
  | list b l => obtain ⟨_, vs, h1, h2⟩ := hor; exact ⟨hb, vs, h1, VRs_lk h2⟩
  | dict b l => obtain ⟨_, kvs, h1, h2⟩ := hor; exact ⟨hb, kvs, h1, VRd_lk h2⟩
theorem OR_same {L : Addr → Prop} {o : AObj} {a : Addr} (hor : C.OR g h o a) (hL : L a ↔ g.lk a) : C.OR (g.withLk L) h o a := by
  cases o with
  | list b l => obtain ⟨h0, vs, h1, h2⟩ := hor; exact ⟨h0.trans hL.symm, vs, h1, VRs_lk h2⟩
  | dict b l => obtain ⟨h0, kvs, h1, h2⟩ := hor; exact ⟨h0.trans hL.symm, kvs, h1, VRd_lk h2⟩

theorem mu_inj (R : C.Rel σ g h) {i j : Nat} {a : Addr} (h1 : g.μ[i]? = some a) (h2 : g.μ[j]? = some a) : i = j := by
  have l1 := (List.getElem?_eq_some_iff.mp h1).1
  exact (List.getElem?_inj l1 R.rel.nodup).mp (h1.trans h2.symm)

theorem lock_rel (R : C.Rel σ g h) {v : PV} : C.Rel (lockV σ v true) (g.withLk (lockSet g v)) h := by
  refine relock R lockV_len (fun a ha => ?_) fun j o b h1 h2 => ?_
  · rcases ha with ha | ⟨i, _, ha⟩
    · exact R.rel.lkμ a ha
    · exact List.mem_of_getElem? ha
  · have other : (∀ i, v = .ref i → j ≠ i) → C.OR (g.withLk (lockSet g v)) h o b := fun hne => by
      have h1' : σ[j]? = some o := by
        unfold lockV at h1
        split at h1
        · rw [lockAt_ne (hne _ rfl)] at h1; exact h1
        · exact h1
      refine OR_same (R.rel.objs j o b h1' h2) ⟨fun q => q.elim id fun ⟨i, q1, q2⟩ => ?_, fun q => .inl q⟩
      exact absurd (mu_inj R h2 q2) (hne i q1)
    by_cases hv : v = .ref j
    · subst hv
      have h1' : (lockAt σ j true)[j]? = some o := h1
      rw [lockAt_self] at h1'
      obtain ⟨o0, q1, q2⟩ := Option.map_eq_some_iff.mp h1'
      exact OR_flag (R.rel.objs j o0 b q1 h2) true q2.symm ⟨fun _ => .inr ⟨j, rfl, h2⟩, fun _ => rfl⟩
    · exact other fun i hi hji => hv (by rw [hi, hji])

theorem unlock_rel (R0 : C.Rel σ g h) (R : C.Rel σ' g' h') {v : PV} (hp : g.μ <+: g'.μ) (hlk : g'.lk = lockSet g v) (hv : ∀ i, v = .ref i → ∃ a, g.μ[i]? = some a) : C.Rel (lockV σ' v (lkV σ v)) (g'.withLk g.lk) h' := by
  have up : ∀ {i : Nat} {a : Addr}, g.μ[i]? = some a → g'.μ[i]? = some a := fun {i a} e => by
    obtain ⟨t, ht⟩ := hp
    rw [← ht, List.getElem?_append_left (List.getElem?_eq_some_iff.mp e).1]; exact e
  refine relock R lockV_len (fun a ha => ?_) fun j o b h1 h2 => ?_
  · obtain ⟨i, hi⟩ := List.getElem?_of_mem (R0.rel.lkμ a ha)
    exact List.mem_of_getElem? (up hi)
  · by_cases hvj : v = .ref j
    · subst hvj
      have h1' : (lockAt σ' j (lkV σ (.ref j)))[j]? = some o := h1
      rw [lockAt_self] at h1'
      obtain ⟨o0, q1, q2⟩ := Option.map_eq_some_iff.mp h1'
      obtain ⟨a, ha⟩ := hv j rfl
      have hab : a = b := by have := up ha; rw [h2] at this; exact (Option.some.inj this).symm
      subst hab
      refine OR_flag (R.rel.objs j o0 a q1 h2) _ q2.symm ?_
      have hlt : j < σ.length := R0.rel.len ▸ (List.getElem?_eq_some_iff.mp ha).1
      have hor := R0.rel.objs j σ[j] a (by simp [hlt]) ha
      show lkAt σ j = true ↔ g.lk a
      unfold lkAt
      have e : σ[j]? = some σ[j] := by simp [hlt]
      rw [e]
      cases hx : σ[j] with
      | list b l => rw [hx] at hor; exact hor.1
      | dict b l => rw [hx] at hor; exact hor.1
    · have h1' : σ'[j]? = some o := by
        unfold lockV at h1
        split at h1
        · rename_i i; rw [lockAt_ne (fun q => hvj (by rw [q]))] at h1; exact h1
        · exact h1
      refine OR_same (R.rel.objs j o b h1' h2) ⟨fun q => by rw [hlk]; exact .inl q, fun q => ?_⟩
      rw [hlk] at q
      rcases q with q | ⟨i, rfl, q⟩
      · exact q
      · exact absurd (mu_inj R h2 (up q)) fun e => hvj (by rw [e])

theorem Ext.relock {L : Addr → Prop} (e : Ext own (g.withLk L) s g' s') (h : ∀ b, g.lk b → L b) : Ext own g s (g'.withLk g.lk) s' :=
  ⟨e.pre, e.sub, e.newμ, e.newΦ, rfl, fun b o q1 q2 q3 => e.keep b o q1 (q2.imp id (h b)) q3, e.live, e.gens, e.os⟩
end Mine

set_option autoImplicit false
set_option backward.match.sparseCases true
set_option linter.unusedVariables false
namespace Mine
open PySem PyProof.Rows PySem.SeqAt

variable {C : Fix} {c : Cx} {σ σ' : AH} {g g' : Cfg} {h h' : Heap} {s s' : Shared} {own : Addr → Prop} {A : Around} {d : Nat} {nm : NM} {vm : VM} {env : Env} {ρ : List PV}
  {E : Value → Shared → Prop}

noncomputable def closOf (env : Env) : NM → List (Str × Addr) → List (Str × Addr)
  | [], acc => acc
  | (n, k) :: r, acc => closOf env r (if k == .free then (n, (env.cells.lookup n).getD 0) :: acc else acc)

theorem closure_eq {scope : Scope} (h : ∀ n, (n, NameKind.free) ∈ scope.names → ∃ c, env.cells.lookup n = some c) : closureFor scope env = pure (closOf env scope.names []) := by
  unfold closureFor
  have key : ∀ (l : NM) (acc : List (Str × Addr)) (f : Str × NameKind → List (Str × Addr) → Sem (ForInStep (List (Str × Addr)))), (∀ n k cs, f (n, k) cs = if (k == .free) = true then (do let c ← cellOf env n; pure (.yield ((n, c) :: cs))) else pure (.yield cs)) →
      (∀ n, (n, NameKind.free) ∈ l → ∃ c, env.cells.lookup n = some c) → forIn l acc f = pure (closOf env l acc) := by
    intro l
    induction l with
    | nil => intro acc f hf hl; simp [closOf]
    | cons p r ih =>
      intro acc f hf hl
      obtain ⟨n, k⟩ := p
      rw [List.forIn_cons, hf]
      by_cases hk : (k == NameKind.free) = true
      · have hk' : k = .free := by simpa using hk
        subst hk'
        obtain ⟨cc, hc⟩ := hl n (List.mem_cons_self ..)
        rw [if_pos hk]
        have : cellOf env n = pure cc := by unfold cellOf; rw [hc]
        rw [this]
        simp only [pure_bind]
        rw [ih _ f hf fun m hm => hl m (List.mem_cons_of_mem _ hm)]
        simp [closOf, hc]
      · rw [if_neg hk]
        simp only [pure_bind]
        rw [ih _ f hf fun m hm => hl m (List.mem_cons_of_mem _ hm)]
        simp [closOf, hk]
  dsimp only
  rw [key scope.names [] _ (fun n k cs => by cases hk : (k == NameKind.free) <;> simp [hk]) h]
  simp
theorem closOf_sub : ∀ (l : NM) (acc : List (Str × Addr)), (∀ n, (n, NameKind.free) ∈ l → ∃ c, env.cells.lookup n = some c) → (∀ n c, acc.lookup n = some c → env.cells.lookup n = some c) → ∀ n c, (closOf env l acc).lookup n = some c → env.cells.lookup n = some c
  | [], acc, _, ha, n, c, h => ha n c h
  | (m, k) :: r, acc, hl, ha, n, c, h => by
    refine closOf_sub r _ (fun m hm => hl m (List.mem_cons_of_mem _ hm)) (fun n' c' h' => ?_) n c h
    by_cases hk : (k == NameKind.free) = true
    · have hk' : k = .free := by simpa using hk
      subst hk'
      obtain ⟨cc, hc⟩ := hl m (List.mem_cons_self ..)
      simp only [beq_self_eq_true, if_true, List.lookup_cons, hc, Option.getD_some] at h'
      cases hn : n' == m with
      | true => rw [hn] at h'; have : n' = m := by simpa using hn
                subst this; rw [hc]; exact h'
      | false => rw [hn] at h'; exact ha n' c' h'
    · simp only [hk, if_false] at h'; exact ha n' c' h'
theorem closOf_has : ∀ (l : NM) (acc : List (Str × Addr)) (n : Str), (n, NameKind.free) ∈ l ∨ (acc.lookup n).isSome = true → ((closOf env l acc).lookup n).isSome = true
  | [], acc, n, h => h.elim (fun q => (nomatch q)) id
  | (m, k) :: r, acc, n, h => by
    refine closOf_has r _ n ?_
    rcases h with h | h
    · rcases List.mem_cons.mp h with e | h
      · cases e; right; simp
      · exact .inl h
    · right
      split
      · rw [List.lookup_cons]; split
        · rfl
        · exact h
      · exact h
theorem closOf_get {l : NM} (hl : ∀ n, (n, NameKind.free) ∈ l → ∃ c, env.cells.lookup n = some c) {n : Str} {cc : Addr} (hn : (n, NameKind.free) ∈ l) (hc : env.cells.lookup n = some cc) : (closOf env l []).lookup n = some cc := by
  obtain ⟨c', h'⟩ := Option.isSome_iff_exists.mp (closOf_has l [] n (.inl hn))
  have := closOf_sub l [] hl (fun _ _ q => (nomatch q)) n c' h'
  rw [hc] at this; cases this; exact h'

/-! slots -/
theorem kill_get {ks : List Nat} : ∀ {ρ : List PV} {i : Nat} {v : PV}, (kill ks ρ)[i]? = some v → v ≠ .undef → i ∉ ks ∧ ρ[i]? = some v := by
  induction ks with
  | nil => intro ρ i v h hv; exact ⟨by simp, h⟩
  | cons k ks ih =>
    intro ρ i v h hv
    have h' : (kill ks (ρ.set k .undef))[i]? = some v := h
    obtain ⟨h1, h2⟩ := ih h' hv
    rcases set_get h2 with ⟨rfl, rfl⟩ | ⟨h3, h4⟩
    · exact absurd rfl hv
    · exact ⟨fun q => (List.mem_cons.mp q).elim h3 h1, h4⟩
theorem kill_keep {ks : List Nat} : ∀ {ρ : List PV} {i : Nat}, i ∉ ks → (kill ks ρ)[i]? = ρ[i]? := by
  induction ks with
  | nil => intro ρ i h; rfl
  | cons k ks ih =>
    intro ρ i h
    show (kill ks (ρ.set k .undef))[i]? = _
    rw [ih (fun q => h (List.mem_cons_of_mem _ q)), List.getElem?_set_ne (by rintro rfl; exact h (List.mem_cons_self ..))]
theorem setAll_keep : ∀ (is : List Nat) (l ρ : List PV) {i : Nat}, i ∉ is → (setAll ρ is l)[i]? = ρ[i]?
  | [], l, ρ, i, h => by cases l <;> rfl
  | k :: is, [], ρ, i, h => rfl
  | k :: is, v :: l, ρ, i, h => by
    show (setAll (ρ.set k v) is l)[i]? = _
    rw [setAll_keep is l _ (fun q => h (List.mem_cons_of_mem _ q)), List.getElem?_set_ne (by rintro rfl; exact h (List.mem_cons_self ..))]
theorem bindT_keep {t : Tgt} {v : PV} {ρ ρ1 : List PV} (hb : bindT t v ρ = some ρ1) {i : Nat} (hi : i ∉ tgtSlots t) : ρ1[i]? = ρ[i]? := by
  cases t with
  | one k => cases hb; exact List.getElem?_set_ne (fun q => hi (by rw [← q]; exact List.mem_singleton.mpr rfl))
  | many is =>
    cases v <;> first | cases hb | skip
    rename_i l
    have hb' : (if l.length = is.length then some (setAll ρ is l) else none) = some ρ1 := hb
    split at hb'
    · cases hb'; exact setAll_keep is l ρ hi
    · cases hb'

theorem FR.sub {ρ0 ρ1 : List PV} (F : FR C nm vm env ρ1 g h) (hs : ∀ (i : Nat) v, ρ0[i]? = some v → v ≠ .undef → ρ1[i]? = some v) : FR C nm vm env ρ0 g h :=
  ⟨F.kind, F.names, F.glob, F.blt, F.inj, let ⟨m, n1, n2⟩ := F.ns; ⟨m, n1, fun x i v a1 a2 a3 a4 => n2 x i v a1 a2 (hs i v a3 a4) a4⟩,
    fun x i a1 a2 => let ⟨cc, o, b1, b2, b3⟩ := F.cl x i a1 a2; ⟨cc, o, b1, b2, fun v a3 a4 => b3 v (hs i v a3 a4) a4⟩, F.offL, F.offC, F.cliv, F.apart⟩

/-! the comprehension's own frame -/
theorem lookup_map_kind {f : Str → NameKind → NameKind} : ∀ (l : NM) (x : Str), (l.map fun p => (p.1, f p.1 p.2)).lookup x = (l.lookup x).map (f x)
  | [], x => rfl
  | (n, k) :: r, x => by
    simp only [List.map_cons, List.lookup_cons]
    cases hx : x == n with
    | true => have : x = n := by simpa using hx
              subst this; rfl
    | false => exact lookup_map_kind r x
theorem compNames_lookup (nm own : NM) (x : Str) : (compNames nm own).lookup x = (own.lookup x).map fun k => if k == .free && nm.lookup x == some .cell then .cell else k := by
  rw [← lookup_map_kind (f := fun x k => if k == .free && nm.lookup x == some .cell then .cell else k)]
  unfold compNames
  congr 1
  refine List.map_congr_left fun p _ => ?_
  obtain ⟨n, k⟩ := p
  dsimp only
  split <;> rfl
theorem relabel_names (hk : env.scope.kind = .function) (hn : env.scope.names = nm) (scope : Scope) : (relabel scope env).names = compNames nm scope.names := by
  unfold relabel compNames
  refine List.map_congr_left fun p _ => ?_
  obtain ⟨n, k⟩ := p
  have e : env.kindOf n = nm.lookup n := by rw [← hn]; rfl
  simp only [hk, e, beq_self_eq_true, Bool.and_true]

theorem lookup_mem_pair {α : Type} : ∀ {l : List (Str × α)} {x : Str} {a : α}, l.lookup x = some a → (x, a) ∈ l
  | (n, b) :: r, x, a, h => by
    rw [List.lookup_cons] at h
    cases hx : x == n with
    | true => rw [hx] at h; cases h; have : x = n := by simpa using hx
              subst this; exact List.mem_cons_self ..
    | false => rw [hx] at h; exact List.mem_cons_of_mem _ (lookup_mem_pair h)
theorem lookup_inj {l : VM} (hn : (l.map (·.2)).Nodup) {x y : Str} {i : Nat} (h1 : l.lookup x = some i) (h2 : l.lookup y = some i) : x = y := by
  have m1 := lookup_mem_pair h1
  have m2 := lookup_mem_pair h2
  clear h1 h2
  induction l with
  | nil => cases m1
  | cons p r ih =>
    rw [List.map_cons, List.nodup_cons] at hn
    rcases List.mem_cons.mp m1 with e1 | e1 <;> rcases List.mem_cons.mp m2 with e2 | e2
    · rw [← e1] at e2; cases e2; rfl
    · subst e1; exact absurd (List.mem_map.mpr ⟨_, e2, rfl⟩) hn.1
    · subst e2; exact absurd (List.mem_map.mpr ⟨_, e1, rfl⟩) hn.1
    · exact ih hn.2 e1 e2
theorem zip_lookup : ∀ (ns : List Str) (is : List Nat) (vm : VM) (x : Str) (i : Nat), ns.length = is.length → (ns.zip is ++ vm).lookup x = some i → (x ∈ ns ∧ i ∈ is) ∨ (x ∉ ns ∧ vm.lookup x = some i)
  | [], is, vm, x, i, hl, h => .inr ⟨by simp, by simpa using h⟩
  | n :: ns, [], vm, x, i, hl, h => by cases hl
  | n :: ns, k :: is, vm, x, i, hl, h => by
    rw [List.zip_cons_cons, List.cons_append, List.lookup_cons] at h
    cases hx : x == n with
    | true => rw [hx] at h; cases h; have : x = n := by simpa using hx
              subst this; exact .inl ⟨List.mem_cons_self .., List.mem_cons_self ..⟩
    | false =>
      rw [hx] at h
      have hne : x ≠ n := by simpa using hx
      rcases zip_lookup ns is vm x i (by simpa using hl) h with ⟨a, b⟩ | ⟨a, b⟩
      · exact .inl ⟨List.mem_cons_of_mem _ a, List.mem_cons_of_mem _ b⟩
      · exact .inr ⟨fun q => (List.mem_cons.mp q).elim hne a, b⟩
theorem chkT_len {t : Tgt} {tg : Expr} (hc : chkT nm vm t tg = true) : (tgtNames tg).length = (tgtSlots t).length := by
  cases t with
  | one i => cases tg <;> first | (unfold chkT at hc; cases hc) | rfl
  | many is =>
    cases tg <;> first | (unfold chkT at hc; cases hc) | skip
    rename_i es ctx p
    have key : ∀ (is : List Nat) (es : List Expr), chkNames nm vm is es = true → (namesOf es).length = is.length := by
      intro is
      induction is with
      | nil => intro es h; rw [chkNames_nil h]; rfl
      | cons i is ih =>
        intro es h
        obtain ⟨x, p, es', rfl, _, _, h3⟩ := chkNames_cons h
        show (namesOf es').length + 1 = is.length + 1
        rw [ih es' h3]
    exact key is es hc

structure CompOK (nm : NM) (vm : VM) (tg : Expr) (sc : Scope) : Prop where
  kind : sc.kind = .function
  nodup : (sc.names.map (·.1)).Nodup
  loc : ∀ n, (n, NameKind.local) ∈ sc.names → (n = (".0" : Str) ∧ vm.lookup n = none) ∨ n ∈ tgtNames tg
  free : ∀ n, (n, NameKind.free) ∈ sc.names → n ∉ tgtNames tg ∧ (∃ i, vm.lookup n = some i) ∧ isCellK (nm.lookup n) = true
  cell : ∀ x ∈ sc.names, x.2 ≠ .cell
theorem compOK_of {tg : Expr} {sc : Scope} (h : compScopeOk nm vm tg sc = true) : CompOK nm vm tg sc := by
  obtain ⟨h12, h3⟩ := and2 h
  obtain ⟨h1, h2⟩ := and2 h12
  have h3 := List.all_eq_true.mp h3
  refine ⟨by simpa using h1, of_decide_eq_true h2, fun n hn => ?_, fun n hn => ?_, fun x hx => ?_⟩
  · have := h3 _ hn
    simp only [Bool.or_eq_true, Bool.and_eq_true, beq_iff_eq, Option.isNone_iff_eq_none, List.contains_iff_mem] at this
    exact this
  · have := h3 _ hn
    simp only [Bool.or_eq_true, Bool.and_eq_true, beq_iff_eq, Bool.not_eq_true', Option.isSome_iff_exists] at this
    obtain ⟨⟨a1, a2⟩, a3⟩ := this
    refine ⟨fun q => ?_, a2, ?_⟩
    · have := List.contains_iff_mem.mpr q; rw [a1] at this; cases this
    · rcases a3 with e | e <;> rw [e] <;> rfl
  · have := h3 _ hx
    intro q
    obtain ⟨n, k⟩ := x
    dsimp only at q
    subst q
    cases this
theorem CompOK.names {tg : Expr} {sc : Scope} (h : CompOK nm vm tg sc) : ∀ x ∈ sc.names, x.2 = .local → sc.names.lookup x.1 = some .local := by
  intro x hx hl
  obtain ⟨n, k⟩ := x
  dsimp only at hl
  subst hl
  have hn := h.nodup
  generalize sc.names = l at hx hn
  induction l with
  | nil => cases hx
  | cons p r ih =>
    rw [List.map_cons, List.nodup_cons] at hn
    rw [List.lookup_cons]
    rcases List.mem_cons.mp hx with e | e
    · subst e; simp
    · have : (n == p.1) = false := by
        rw [beq_eq_false_iff_ne]; rintro rfl
        exact hn.1 (List.mem_map.mpr ⟨_, e, rfl⟩)
      rw [this]; exact ih e hn.2

theorem FR.freeCells (F : FR C nm vm env ρ g h) {tg : Expr} {sc : Scope} (ok : CompOK nm vm tg sc) : ∀ n, (n, NameKind.free) ∈ sc.names → ∃ c, env.cells.lookup n = some c := fun n hn => by
  obtain ⟨_, ⟨i, hi⟩, h3⟩ := ok.free n hn
  obtain ⟨cc, o, b1, _⟩ := F.cl n i hi h3
  exact ⟨cc, b1⟩

theorem FR.comp (F : FR C nm vm env ρ g h) {tg : Expr} {sc : Scope} {t : Tgt} (ok : CompOK nm vm tg sc) (hnd : ((compVM vm t tg).map (·.2)).Nodup) (hlen : (tgtNames tg).length = (tgtSlots t).length) {L : Addr} {m : Str → Option Value} (hL : h.Ns L m) (hoff : L ∉ g.μ ∧ ¬ g.Φ L) :
    FR C (compNames nm sc.names) (compVM vm t tg) (compEnvC sc (closOf env sc.names []) L env) (kill (tgtSlots t) ρ) g h where
  kind := ok.kind
  names := relabel_names F.kind F.names sc
  glob := F.glob
  blt := F.blt
  inj := fun x y i => lookup_inj hnd
  ns := ⟨m, hL, fun x i v a1 a2 a3 a4 => by
    rw [compNames_lookup] at a2
    obtain ⟨k, k1, k2⟩ := Option.map_eq_some_iff.mp a2
    have k3 : k = .local := by
      split at k2
      · cases k2
      · exact k2
    subst k3
    obtain ⟨q1, q2⟩ := kill_get a3 a4
    rcases zip_lookup _ _ vm x i hlen a1 with ⟨_, b⟩ | ⟨b1, b2⟩
    · exact absurd b q1
    · rcases ok.loc x (lookup_mem_pair k1) with ⟨_, e⟩ | e
      · rw [e] at b2; cases b2
      · exact absurd e b1⟩
  cl := fun x i a1 a2 => by
    rw [compNames_lookup] at a2
    cases hk : sc.names.lookup x with
    | none => rw [hk] at a2; cases a2
    | some k =>
      have hm := lookup_mem_pair hk
      have hkf : k = .free := by
        rw [hk] at a2
        cases k <;> first | rfl | skip
        all_goals first | (exact absurd rfl (ok.cell _ hm)) | (simp [isCellK] at a2)
      subst hkf
      obtain ⟨f1, f2, f3⟩ := ok.free x hm
      rcases zip_lookup _ _ vm x i hlen a1 with ⟨b, _⟩ | ⟨b1, b2⟩
      · exact absurd b f1
      · obtain ⟨cc, o, c1, c2, c3⟩ := F.cl x i b2 f3
        exact ⟨cc, o, closOf_get (F.freeCells ok) hm c1, c2, fun v a3 a4 => c3 v (kill_get a3 a4).2 a4⟩
  offL := hoff
  offC := fun x cc hc => F.offC x cc (closOf_sub _ [] (F.freeCells ok) (fun _ _ q => (nomatch q)) x cc hc)
  cliv := fun x cc hc => F.cliv x cc (closOf_sub _ [] (F.freeCells ok) (fun _ _ q => (nomatch q)) x cc hc)
  apart := fun x y cc h1 h2 => F.apart x y cc (closOf_sub _ [] (F.freeCells ok) (fun _ _ q => (nomatch q)) x cc h1) (closOf_sub _ [] (F.freeCells ok) (fun _ _ q => (nomatch q)) y cc h2)
end Mine

set_option autoImplicit false
set_option backward.match.sparseCases true
set_option linter.unusedVariables false
namespace Mine
open PySem PyProof.Rows PySem.SeqAt

variable {C : Fix} {c : Cx} {σ σ' : AH} {g g' : Cfg} {h h' : Heap} {s s' : Shared} {own : Addr → Prop} {A : Around} {d : Nat} {nm : NM} {vm : VM} {env : Env} {ρ : List PV}
  {Q : Value → Shared → Prop} {E : Value → Shared → Prop}

theorem FR.ext' (F : FR C nm vm env ρ g s.heap) (R : C.Rel σ g s.heap) (e : Ext own g s g' s') (hoff : Off own g) (hL : ¬ own env.locals) (hC : ∀ x cc, env.cells.lookup x = some cc → ¬ own cc) : FR C nm vm env ρ g' s'.heap where
  kind := F.kind
  names := F.names
  glob := F.glob
  blt := F.blt
  inj := F.inj
  ns := by
    obtain ⟨m, h1, h2⟩ := F.ns
    refine ⟨m, ?_, fun x i v a1 a2 a3 a4 => ?_⟩
    · obtain ⟨o, es, ep, ho, rest⟩ := h1
      exact ⟨o, es, ep, e.keep _ _ ho (.inl F.offL.1) hL, rest⟩
    · obtain ⟨y, b1, b2⟩ := h2 x i v a1 a2 a3 a4
      exact ⟨y, b1, VR_ext R e hoff b2⟩
  cl := fun x i a1 a2 => by
    obtain ⟨cc, o, b1, b2, b3⟩ := F.cl x i a1 a2
    refine ⟨cc, o, b1, ?_, fun v a3 a4 => ?_⟩
    · obtain ⟨ob, ho, rest⟩ := b2
      exact ⟨ob, e.keep _ _ ho (.inl (F.offC x cc b1).1) (hC x cc b1), rest⟩
    · obtain ⟨y, c1, c2⟩ := b3 v a3 a4
      exact ⟨y, c1, VR_ext R e hoff c2⟩
  offL := by
    obtain ⟨m, h1, _⟩ := F.ns
    obtain ⟨o, ho⟩ := Heap.Ns.live h1
    exact ⟨e.notμ ho F.offL.1, e.notΦ ho F.offL.2⟩
  offC := fun x cc b1 => by
    obtain ⟨o, ob, ho, _⟩ := F.cliv x cc b1
    exact ⟨e.notμ ho (F.offC x cc b1).1, e.notΦ ho (F.offC x cc b1).2⟩
  cliv := fun x cc b1 => by
    obtain ⟨o, ob, ho, rest⟩ := F.cliv x cc b1
    exact ⟨o, ob, e.keep _ _ ho (.inl (F.offC x cc b1).1) (hC x cc b1), rest⟩
  apart := F.apart

theorem Ext.drop (x : Ext noOwn g s g' s') {g2 : Cfg} {s2 : Shared} (y : Ext own g' s' g2 s2) (hn : ∀ a, own a → s.heap.get? a = none) : Ext noOwn g s g2 s2 :=
  let z := x.weaken.trans y
  { z with keep := fun b o e hb _ => z.keep b o e hb fun q => by rw [hn b q] at e; cases e }

theorem compLoop_gen {R : Result → Shared → Prop} {elt target iter : Expr} {ifs : List Expr} {scope : Scope} {pos : Pos} {it acc : Value} {env : Env} (I : Nat → Shared → Prop)
    (turn : ∀ n s, I n s → wpAny (model C.prog C.w) A (pyNext it) (fun r s₁ => match r with
      | none => R (.ok .next) s₁
      | some v => wpAny (model C.prog C.w) A (letOwnedTupleGo target it v) (fun _ s₁' => wpAny (model C.prog C.w) A (assign target env v) (fun _ s₂ =>
          wpAny (model C.prog C.w) A (forIn ifs true fun c r => if r = true then do let ok ← isTrue c env (eval c env); pure (ForInStep.yield ok) else pure (ForInStep.yield r)) (fun ok s₃ =>
            if ok = true then wpAny (model C.prog C.w) A (eval elt env) (fun x s₄ =>
              wpAny (model C.prog C.w) A (call (.builtin "list.append") [acc, x]) (fun _ s₅ => ∃ m, m < n ∧ I m s₅) (notedBy (model C.prog C.w) A env fun e s' => R (.error e) s') s₄) (notedBy (model C.prog C.w) A env fun e s' => R (.error e) s') s₃
            else ∃ m, m < n ∧ I m s₃) (notedBy (model C.prog C.w) A env fun e s' => R (.error e) s') s₂) (notedBy (model C.prog C.w) A env fun e s' => R (.error e) s') s₁') (notedBy (model C.prog C.w) A env fun e s' => R (.error e) s') s₁) (notedBy (model C.prog C.w) A env fun e s' => R (.error e) s') s)
    (n : Nat) (h : I n s) :
    codeAny (model C.prog C.w) A (.compLoop (.ListComp elt [⟨target, iter, ifs, 0⟩] scope pos) 0 it acc env) R s := by
  refine codeAny_loop rfl I (fun n s hI => ?_) n h
  show wpAny _ A ((compTurn (.ListComp elt [⟨target, iter, ifs, 0⟩] scope pos) 0 it acc env).onRaise (fun x => do noteFrame x env; theTreesLotGoes x)) _ _ s
  refine wpAny_noted ?_
  rw [compTurn_list]
  refine wpAny_bind (wpAny_standAt (wpAny_bind (wpAny_mono (turn n s hI) (fun r s₁ h₁ => ?_) fun _ _ h' => h')))
  cases r with
  | none => exact wpAny_pure h₁
  | some v =>
    refine wpAny_bind (wpAny_mono h₁ (fun _ s₁' h₁' => ?_) fun _ _ h' => h')
    refine wpAny_bind (wpAny_mono h₁' (fun _ s₂ h₂ => wpAny_bind (wpAny_mono h₂ (fun ok s₃ h₃ => ?_) fun _ _ h' => h')) fun _ _ h' => h')
    cases ok with
    | false => exact wpAny_pure ⟨rfl, h₃⟩
    | true =>
      exact wpAny_bind (wpAny_bind (wpAny_mono h₃ (fun x s₄ h₄ => wpAny_bind (wpAny_mono h₄ (fun _ s₅ h₅ => wpAny_pure (wpAny_pure ⟨rfl, h₅⟩)) fun _ _ h' => h')) fun _ _ h' => h'))

/-- the loop's state -/
structure CS (C : Fix) (L D I : Addr) (fp : List Addr) (St : Nat → Heap → Prop) (nm : NM) (vm : VM) (env : Env) (ρ : List PV) (i : Nat) (done : List PV) (σ : AH) (g : Cfg) (s : Shared) : Prop where
  rel : C.Rel σ g s.heap
  fr : FR C nm vm env ρ g s.heap
  st : St i s.heap
  acc : ∃ ws, IsListX s.heap D ws ∧ C.VRs g s.heap done ws.toList
  offI : I ∉ g.μ ∧ ¬ g.Φ I
  offD : D ∉ g.μ ∧ ¬ g.Φ D
  liveI : ∃ o, s.heap.get? I = some o
  keep : ∀ b ∈ fp, (b ∉ g.μ ∨ g.lk b) ∧ ∃ o, s.heap.get? b = some o

structure CF (L D I : Addr) (fp : List Addr) (env : Env) : Prop where
  hL : env.locals = L
  LI : L ≠ I
  LD : L ≠ D
  DI : D ≠ I
  fpL : L ∉ fp
  fpD : D ∉ fp
  cI : ∀ x cc, env.cells.lookup x = some cc → cc ≠ I ∧ cc ≠ D ∧ cc ≠ L

variable {L D I : Addr} {fp : List Addr} {St : Nat → Heap → Prop} {i n : Nat} {done : List PV} {P : Nat → Value → Prop}

theorem CS.eval (x : CS C L D I fp St nm vm env ρ i done σ g s) (W : Walks C.prog C.w A I fp [I] n P St) (e : Ext noOwn g s g' s') (R' : C.Rel σ' g' s'.heap) : CS C L D I fp St nm vm env ρ i done σ' g' s' where
  rel := R'
  fr := x.fr.ext x.rel e
  st := W.frame _ _ _ x.st fun b hb o ho => e.keep b o ho (x.keep b hb).1 (fun q => q)
  acc := by
    obtain ⟨ws, ⟨n, e1⟩, e2⟩ := x.acc
    exact ⟨ws, ⟨n, e.keep _ _ e1 (.inl x.offD.1) (fun q => q)⟩, VRs_ext x.rel e Off.none e2⟩
  offI := by obtain ⟨o, ho⟩ := x.liveI; exact ⟨e.notμ ho x.offI.1, e.notΦ ho x.offI.2⟩
  offD := by obtain ⟨ws, ⟨n, ho⟩, _⟩ := x.acc; exact ⟨e.notμ ho x.offD.1, e.notΦ ho x.offD.2⟩
  liveI := by obtain ⟨o, ho⟩ := x.liveI; exact ⟨o, e.keep _ _ ho (.inl x.offI.1) (fun q => q)⟩
  keep := fun b hb => by
    obtain ⟨k1, o, ho⟩ := x.keep b hb
    exact ⟨k1.imp (e.notμ ho) fun q => by rw [e.lock]; exact q, o, e.keep b o ho k1 (fun q => q)⟩

/-- the iterator moved -/
theorem CS.next (F0 : CF L D I fp env) (x : CS C L D I fp St nm vm env ρ i done σ g s) {h' : Heap} {tk j : Nat} (hk : ∀ b o, b ∉ [I] → s.heap.get? b = some o → h'.get? b = some o) (hst : St j h') (hI : ∃ o, h'.get? I = some o) :
    CS C L D I fp St nm vm env ρ j done σ g { s with heap := h', toks := tk } ∧ Ext (· = I) g s g { s with heap := h', toks := tk } := by
  have hk' : ∀ b o, b ≠ I → s.heap.get? b = some o → h'.get? b = some o := fun b o hb e => hk b o (by simpa using hb) e
  have e : Ext (· = I) g s g { s with heap := h', toks := tk } := Ext.heap (fun b o e _ hb => hk' b o hb e) fun b hb => by
    by_cases hbI : b = I
    · subst hbI; obtain ⟨o, ho⟩ := hI; exact isSome_of ho
    · obtain ⟨o, ho⟩ := Option.isSome_iff_exists.mp hb; exact isSome_of (hk' b o hbI ho)
  have hoff : Off (· = I) g := fun b hb => by subst hb; exact x.offI
  have kept : Kept g s.heap h' := .of_but hk' x.offI
  refine ⟨⟨x.rel.kept kept, x.fr.ext' x.rel e hoff (fun q => F0.LI (F0.hL ▸ q)) (fun y cc hc q => (F0.cI y cc hc).1 q), hst, ?_, x.offI, x.offD, hI, fun b hb => ⟨(x.keep b hb).1, ?_⟩⟩, e⟩
  · obtain ⟨ws, ⟨n, e1⟩, e2⟩ := x.acc
    exact ⟨ws, ⟨n, hk' _ _ F0.DI e1⟩, VRs_kept (C := C) kept e2⟩
  · by_cases hbI : b = I
    · subst hbI; exact hI
    · obtain ⟨o, ho⟩ := (x.keep b hb).2; exact ⟨o, hk' b o hbI ho⟩

/-- the frame's own variables stored -/
theorem CS.store (F0 : CF L D I fp env) (x : CS C L D I fp St nm vm env ρ i done σ g s) (W : Walks C.prog C.w A I fp [I] n P St) {ρ' : List PV} (e : Ext (· = L) g s g s') (F' : FR C nm vm env ρ' g s'.heap) (R' : C.Rel σ g s'.heap) :
    CS C L D I fp St nm vm env ρ' i done σ g s' := by
  have hk' : ∀ b o, b ∉ g.μ ∨ g.lk b → b ≠ L → s.heap.get? b = some o → s'.heap.get? b = some o := fun b o h1 hb ho => e.keep b o ho h1 hb
  have hoff : Off (· = L) g := fun b hb => by subst hb; exact F0.hL ▸ x.fr.offL
  refine ⟨R', F', W.frame _ _ _ x.st fun b hb o ho => hk' b o (x.keep b hb).1 (fun q => F0.fpL (q ▸ hb)) ho, ?_, x.offI, x.offD, ?_, fun b hb => ⟨(x.keep b hb).1, ?_⟩⟩
  · obtain ⟨ws, ⟨n, e1⟩, e2⟩ := x.acc
    exact ⟨ws, ⟨n, hk' _ _ (.inl x.offD.1) (Ne.symm F0.LD) e1⟩, VRs_ext x.rel e hoff e2⟩
  · obtain ⟨o, ho⟩ := x.liveI; exact ⟨o, hk' _ _ (.inl x.offI.1) (Ne.symm F0.LI) ho⟩
  · obtain ⟨o, ho⟩ := (x.keep b hb).2; exact ⟨o, hk' b o (x.keep b hb).1 (fun q => F0.fpL (q ▸ hb)) ho⟩

/-- one more -/
theorem CS.push (F0 : CF L D I fp env) (x : CS C L D I fp St nm vm env ρ i done σ g s) (W : Walks C.prog C.w A I fp [I] n P St) {u : PV} {y : Value} (hy : C.VR g s.heap u y) (hd : done.length ≤ 1000000)
    (hq : ∀ h', CS C L D I fp St nm vm env ρ i (done ++ [u]) σ g { s with heap := h' } → Ext (· = D) g s g { s with heap := h' } → Q .none { s with heap := h' }) :
    wpAny (model C.prog C.w) A (call (.builtin "list.append") [.ref D, y]) Q E s := by
  obtain ⟨ws, ⟨n, e1⟩, e2⟩ := x.acc
  have hsz := e2.size
  refine wpAny_list_append_plain ⟨n, e1⟩ (fun h' hx' hsb => ?_) (by rw [hsz, sizeLine_eq]; omega)
  obtain ⟨n', hx'⟩ := hx'
  have hk' : ∀ b o, b ≠ D → s.heap.get? b = some o → h'.get? b = some o := fun b o hb e => by rw [hsb.2 b hb]; exact e
  have e : Ext (· = D) g s g { s with heap := h' } := Ext.heap (tk := s.toks) (fun b o e _ hb => hk' b o hb e) fun b hb => by
    by_cases hbI : b = D
    · subst hbI; exact isSome_of hx'
    · obtain ⟨o, ho⟩ := Option.isSome_iff_exists.mp hb; exact isSome_of (hk' b o hbI ho)
  have hoff : Off (· = D) g := fun b hb => by subst hb; exact x.offD
  have kept : Kept g s.heap h' := .of_but hk' x.offD
  refine hq h' ⟨x.rel.kept kept, x.fr.ext' x.rel e hoff (fun q => F0.LD (F0.hL ▸ q)) (fun y cc hc q => (F0.cI y cc hc).2.1 q), W.frame _ _ _ x.st fun b hb o ho => hk' b o (fun q => F0.fpD (q ▸ hb)) ho, ⟨_, ⟨n', hx'⟩, ?_⟩, x.offI, x.offD, ?_, fun b hb => ⟨(x.keep b hb).1, ?_⟩⟩ e
  · rw [Array.toList_push]
    exact (VRs_kept (C := C) kept e2).append (.cons (VR_kept (C := C) kept hy) .nil)
  · obtain ⟨o, ho⟩ := x.liveI; exact ⟨o, hk' _ _ (Ne.symm F0.DI) ho⟩
  · obtain ⟨o, ho⟩ := (x.keep b hb).2; exact ⟨o, hk' b o (fun q => F0.fpD (q ▸ hb)) ho⟩

theorem CS.sub {ρ0 : List PV} (x : CS C L D I fp St nm vm env ρ i done σ g s) (hs : ∀ (i : Nat) v, ρ0[i]? = some v → v ≠ .undef → ρ[i]? = some v) : CS C L D I fp St nm vm env ρ0 i done σ g s :=
  ⟨x.rel, x.fr.sub hs, x.st, x.acc, x.offI, x.offD, x.liveI, x.keep⟩

theorem Ext.after (x : Ext noOwn g s g' s') {tk : Nat} (hk : ∀ b o, b ≠ I → s'.heap.get? b = some o → h'.get? b = some o) (hI : s.heap.get? I = none) : Ext noOwn g s g' { s' with heap := h', toks := tk } :=
  ⟨x.pre, x.sub, x.newμ, x.newΦ, x.lock, fun b o e q1 q2 => hk b o (fun q => by rw [q, hI] at e; cases e) (x.keep b o e q1 q2), fun b hb => by
    obtain ⟨o, ho⟩ := Option.isSome_iff_exists.mp (x.live b hb)
    exact isSome_of (hk b o (fun q => by rw [q, hI] at hb; cases hb) ho), x.gens, x.os⟩

noncomputable def own3 (L D I : Addr) : Addr → Prop := fun b => b = I ∨ b = D ∨ b = L

theorem compL_cons {cond elt : List PV → AH → Res PV} {t : Tgt} {x : PV} {xs : List PV} {r : List PV} (h : compL cond elt t ρ (x :: xs) σ = .ok r σ') : ∃ ρ1 b σ1 q, bindT t x ρ = some ρ1 ∧ cond ρ1 σ = .ok b σ1 ∧ truth σ1 b = some q ∧
    ((q = true ∧ ∃ v σ2 rest, elt ρ1 σ1 = .ok v σ2 ∧ compL cond elt t ρ xs σ2 = .ok rest σ' ∧ r = v :: rest) ∨ (q = false ∧ compL cond elt t ρ xs σ1 = .ok r σ')) := by
  rw [compL] at h
  cases hb : bindT t x ρ with
  | none => rw [hb] at h; cases h
  | some ρ1 =>
    rw [hb] at h
    simp only at h
    cases hc : cond ρ1 σ with
    | exc => rw [hc] at h; cases h
    | bad => rw [hc] at h; cases h
    | ok b σ1 =>
      rw [hc] at h
      simp only [Res.bind] at h
      cases ht : truth σ1 b with
      | none => rw [ht] at h; cases h
      | some q =>
        rw [ht] at h
        cases q with
        | false => exact ⟨ρ1, b, σ1, false, rfl, hc, ht, .inr ⟨rfl, h⟩⟩
        | true =>
          simp only at h
          cases he : elt ρ1 σ1 with
          | exc => rw [he] at h; cases h
          | bad => rw [he] at h; cases h
          | ok v σ2 =>
            rw [he] at h
            simp only [Res.bind] at h
            cases hr : compL cond elt t ρ xs σ2 with
            | exc => rw [hr] at h; cases h
            | bad => rw [hr] at h; cases h
            | ok rest σ3 =>
              rw [hr] at h
              replace h := ok_inj h
              obtain ⟨rfl, rfl⟩ := h
              exact ⟨ρ1, b, σ1, true, rfl, hc, ht, .inl ⟨rfl, v, σ2, rest, he, hr, rfl⟩⟩

theorem compL_len {cond elt : List PV → AH → Res PV} {t : Tgt} : ∀ (l : List PV) (σ : AH) (r : List PV), compL cond elt t ρ l σ = .ok r σ' → r.length ≤ l.length
  | [], σ, r, h => by rw [compL] at h; cases h; exact Nat.le_refl _
  | x :: xs, σ, r, h => by
    obtain ⟨ρ1, b, σ1, q, _, _, _, h⟩ := compL_cons h
    rcases h with ⟨_, v, σ2, rest, _, h2, rfl⟩ | ⟨_, h2⟩
    · have := compL_len xs σ2 rest h2; simp; omega
    · have := compL_len xs σ1 r h2; simp; omega

theorem chkT_list {t : Tgt} {tg : Expr} (hc : chkT nm vm t tg = true) : ∀ es p, tg ≠ .List es p := by
  rintro es p rfl
  cases t <;> (unfold chkT at hc; cases hc)

theorem isTT_eq {cond : PE} (h : isTT cond = true) : cond = .const (.bool true) := by
  cases cond <;> try cases h
  rename_i k
  cases k <;> try cases h
  rename_i b
  cases b <;> first | rfl | cases h

theorem comp_loop {elt cond : PE} {m : Nat} {t : Tgt} {e' tg iter : Expr} {ifs : List Expr} {sc : Scope} {pos : Pos} {l vs : List PV} {gs : Cfg} {ss : Shared} {σs σE : AH} {R : Result → Shared → Prop}
    (hE : SndE C c d elt) (hT : SndT C c d cond) (hA : AOK A d) (F0 : CF L D I fp env) (W : Walks C.prog C.w A I fp [I] l.length P St) (hpl : ∀ i h, St i h → PlainIter h I)
    (hcE : chkE elt nm vm e' = true) (hcC : ifsOk (isTT cond) (chkE cond nm vm) ifs = true) (hcT : chkT nm vm t tg = true)
    (hcell : ∀ x ∈ tgtNames tg, nm.lookup x ≠ some .cell)
    (hρ : ∀ (i : Nat) v, ρ[i]? = some v → v ≠ .undef → i ∉ tgtSlots t)
    (Rs : C.Rel σs gs ss.heap) (hP : ∀ i z u, P i z → l[i]? = some u → C.VR gs ss.heap u z) (hoff : Off (own3 L D I) gs) (hlen : vs.length ≤ 1000000)
    (hR : ∀ gn sn h' tk, C.Rel σE gn h' → FR C nm vm env ρ gn h' → (∃ ws, IsListX h' D ws ∧ C.VRs gn h' vs ws.toList) → (D ∉ gn.μ ∧ ¬ gn.Φ D) → Ext (own3 L D I) gs ss gn sn → (∀ b o, b ≠ I → sn.heap.get? b = some o → h'.get? b = some o) → R (.ok .next) { sn with heap := h', toks := tk }) :
    ∀ (k i : Nat) (gi : Cfg) (si : Shared) (σi : AH) (done rest : List PV), i ≤ l.length → k = l.length - i → CS C L D I fp St nm vm env ρ i done σi gi si → Ext (own3 L D I) gs ss gi si → compL (ev c cond 0) (ev c elt m) t ρ (l.drop i) σi = .ok rest σE → done ++ rest = vs →
      codeAny (model C.prog C.w) A (.compLoop (.ListComp e' [⟨tg, iter, ifs, 0⟩] sc pos) 0 (.ref I) (.ref D) env) R si := by
  intro k i gi si σi done rest hi hk X0 E0 hrun hvs
  refine compLoop_gen (fun k s' => ∃ i gi σi done rest, i ≤ l.length ∧ k = l.length - i ∧ CS C L D I fp St nm vm env ρ i done σi gi s' ∧ Ext (own3 L D I) gs ss gi s' ∧ compL (ev c cond 0) (ev c elt m) t ρ (l.drop i) σi = .ok rest σE ∧ done ++ rest = vs) ?_ k ⟨i, gi, σi, done, rest, hi, hk, X0, E0, hrun, hvs⟩
  clear hrun hvs E0 X0 hk hi
  rintro k s' ⟨i, gi, σi, done, rest, hi, rfl, X, E0, hrun, hvs⟩
  by_cases hin : i = l.length
  · subst hin
    rw [List.drop_length, compL] at hrun
    replace hrun := ok_inj hrun
    obtain ⟨rfl, rfl⟩ := hrun
    rw [List.append_nil] at hvs
    subst hvs
    refine W.done s' _ _ X.st fun h' tk hk => ?_
    have hk' : ∀ b o, b ≠ I → s'.heap.get? b = some o → h'.get? b = some o := fun b o hb e => hk b o (by simpa using hb) e
    have kept : Kept gi s'.heap h' := .of_but hk' X.offI
    have hfr : FR C nm vm env ρ gi h' := by
      obtain ⟨m', n1, n2⟩ := X.fr.ns
      refine ⟨X.fr.kind, X.fr.names, X.fr.glob, X.fr.blt, X.fr.inj, ⟨m', ?_, fun x i v a1 a2 a3 a4 => ?_⟩, fun x i a1 a2 => ?_, X.fr.offL, X.fr.offC, fun x cc b1 => ?_, X.fr.apart⟩
      · obtain ⟨o, es, ep, ho, r⟩ := n1
        exact ⟨o, es, ep, hk' _ _ (F0.hL ▸ F0.LI) ho, r⟩
      · obtain ⟨y, b1, b2⟩ := n2 x i v a1 a2 a3 a4; exact ⟨y, b1, VR_kept (C := C) kept b2⟩
      · obtain ⟨cc, o, b1, ⟨ob, b2, b2'⟩, b3⟩ := X.fr.cl x i a1 a2
        exact ⟨cc, o, b1, ⟨ob, hk' _ _ (F0.cI x cc b1).1 b2, b2'⟩, fun v a3 a4 => let ⟨y, c1, c2⟩ := b3 v a3 a4; ⟨y, c1, VR_kept (C := C) kept c2⟩⟩
      · obtain ⟨o, ob, b2, b2'⟩ := X.fr.cliv x cc b1
        exact ⟨o, ob, hk' _ _ (F0.cI x cc b1).1 b2, b2'⟩
    obtain ⟨ws, ⟨n, e1⟩, e2⟩ := X.acc
    exact hR gi s' h' tk (X.rel.kept kept) hfr ⟨ws, ⟨n, hk' _ _ F0.DI e1⟩, VRs_kept (C := C) kept e2⟩ X.offD E0 hk'
  · have hlt : i < l.length := Nat.lt_of_le_of_ne hi hin
    have hdrop : l.drop i = l[i] :: l.drop (i + 1) := List.drop_eq_getElem_cons hlt
    rw [hdrop] at hrun
    obtain ⟨ρ1, b, σ1, q, hb, hc1, hc2, hc3⟩ := compL_cons hrun
    refine W.item i s' _ _ hlt X.st fun z h' tk hz hst hk => ?_
    obtain ⟨ob, nI, q1, q2, q3⟩ := hpl (i + 1) h' hst
    obtain ⟨X1, e1⟩ := X.next F0 (tk := tk) hk hst ⟨ob, q1⟩
    refine owned_go (.inl ⟨ob, nI, q1, q2, q3⟩) (chkT_list hcT) ?_
    have sub1 : ∀ {own' : Addr → Prop} {g s g' s'}, (∀ a, own' a → own3 L D I a) → Ext own' g s g' s' → Ext (own3 L D I) g s g' s' := fun h e => e.mono h
    have E1 := E0.trans (e1.mono fun a ha => .inl ha)
    have hv : C.VR gi h' l[i] z := VR_ext Rs E1 hoff (hP i z _ hz (by simp [hlt]))
    have hoffL : Off (· = L) gi := fun b hb => by subst hb; exact F0.hL ▸ X1.fr.offL
    refine assign_sound (own := (· = L)) hA.hand hoffL F0.hL hcT X1.fr X1.rel hv (fun x hx hc => absurd hc (hcell x hx)) hb fun s2 F2 R2 e2 => ?_
    have X2 := X1.store F0 W e2 F2 R2
    have E2 := E1.trans (e2.mono fun a ha => .inr (.inr ha))
    have back : ∀ (j : Nat) v, ρ[j]? = some v → v ≠ .undef → ρ1[j]? = some v := fun j v h1 h2 => by rw [bindT_keep hb (hρ j v h1 h2)]; exact h1
    have tests : ∀ (Q' : Bool → Shared → Prop) (E' : Value → Shared → Prop), (∀ g3 s3, Ext noOwn gi s2 g3 s3 → C.Rel σ1 g3 s3.heap → Q' q s3) → wpAny (model C.prog C.w) A (forIn ifs true fun c r => if r = true then do let ok ← isTrue c env (eval c env); pure (ForInStep.yield ok) else pure (ForInStep.yield r)) Q' E' s2 := by
      intro Q' E' hQ'
      rcases ifs with _ | ⟨e2', _ | ⟨e3', r3⟩⟩
      · have hco : cond = .const (.bool true) := isTT_eq hcC
        subst hco
        replace hc1 := ok_inj hc1
        obtain ⟨rfl, rfl⟩ := hc1
        cases hc2
        exact wpAny_tests_nil (hQ' gi s2 (Ext.refl _ _) R2)
      · exact wpAny_tests_one (hT nm vm e2' env ρ1 σi gi s2 A _ _ hcC F2 R2 hA (PostT.mk hc1 hc2 hQ'))
      · cases hcC
    refine tests _ _ fun g3 s3 e3 R3 => ?_
    have X3 := X2.eval W e3 R3
    have E3 := E2.trans e3.weaken
    rcases hc3 with ⟨rfl, v, σ2, rest', hv1, hv2, rfl⟩ | ⟨rfl, hv2⟩
    · simp only [if_true]
      refine hE nm vm e' env m ρ1 σ1 g3 s3 A _ _ hcE X3.fr R3 hA (PostE.mk hv1 fun g4 s4 y e4 R4 v4 => ?_)
      have X4 := X3.eval W e4 R4
      have E4 := E3.trans e4.weaken
      have hdl : done.length ≤ 1000000 := by rw [← hvs] at hlen; simp at hlen; omega
      refine X4.push F0 W v4 hdl fun h5 X5 e5 => ?_
      refine ⟨l.length - (i + 1), by omega, i + 1, g4, σ2, done ++ [v], rest', by omega, rfl, X5.sub back, E4.trans (e5.mono fun a ha => .inr (.inl ha)), hv2, by simpa using hvs⟩
    · simp only [Bool.false_eq_true, if_false]
      exact ⟨l.length - (i + 1), by omega, i + 1, g3, σ1, done, rest, by omega, rfl, X3.sub back, E3, hv2, hvs⟩
end Mine

set_option autoImplicit false
set_option backward.match.sparseCases true
set_option linter.unusedVariables false
namespace Mine
open PySem PyProof.Rows PySem.SeqAt

variable {C : Fix} {c : Cx} {σ σ' : AH} {g g' : Cfg} {h h' : Heap} {s s' : Shared} {own : Addr → Prop} {A : Around} {d : Nat} {nm : NM} {vm : VM} {env : Env} {ρ : List PV}
  {Q : Value → Shared → Prop} {E : Value → Shared → Prop}

theorem comp_chk {elt it cond : PE} {t : Tgt} {e : Expr} (hc : chkE (.comp elt t it cond) nm vm e = true) : ∃ e' tg it' ifs sc pos, e = .ListComp e' [⟨tg, it', ifs, 0⟩] sc pos ∧ chkE it nm vm it' = true ∧ CompOK nm vm tg sc ∧ ((compVM vm t tg).map (·.2)).Nodup ∧
    chkT (compNames nm sc.names) (compVM vm t tg) t tg = true ∧ chkE elt (compNames nm sc.names) (compVM vm t tg) e' = true ∧ ifsOk (isTT cond) (chkE cond (compNames nm sc.names) (compVM vm t tg)) ifs = true := by
  cases e <;> try (exact absurd (show false = true from hc) Bool.false_ne_true)
  rename_i e' gens sc pos
  rcases gens with _ | ⟨⟨tg, it', ifs, ia⟩, _ | ⟨g2, gs⟩⟩
  · exact absurd (show false = true from hc) Bool.false_ne_true
  · skip
    obtain ⟨h123456, h7⟩ := and2 hc
    obtain ⟨h12345, h6⟩ := and2 h123456
    obtain ⟨h1234, h5⟩ := and2 h12345
    obtain ⟨h123, h4⟩ := and2 h1234
    obtain ⟨h12, h3⟩ := and2 h123
    obtain ⟨h1, h2⟩ := and2 h12
    have h1 := of_decide_eq_true h1
    subst h1
    exact ⟨e', tg, it', ifs, sc, pos, rfl, h2, compOK_of h3, of_decide_eq_true h4, h5, h6, h7⟩
  · exact absurd (show false = true from hc) Bool.false_ne_true

/-- what stands behind the loop -/
structure CompEnd (C : Fix) (g : Cfg) (s : Shared) (σ' : AH) (vs : List PV) (D L : Addr) (g' : Cfg) (s' : Shared) : Prop where
  ext : Ext noOwn g s g' s'
  rel : C.Rel σ' g' s'.heap
  newD : s.heap.get? D = none
  offD : D ∉ g'.μ ∧ ¬ g'.Φ D
  acc : ∃ ws, IsListX s'.heap D ws ∧ C.VRs g' s'.heap vs ws.toList
  ns : ∃ m, s'.heap.Ns L m
  newL : s.heap.get? L = none
  offL : L ∉ g'.μ ∧ ¬ g'.Φ L
  LD : L ≠ D

theorem CompEnd.letGo {σ' : AH} {vs : List PV} {D L : Addr} (x : CompEnd C g s σ' vs D L g' s') {h' : Heap} (hs : Heap.SameBut L s'.heap h') :
    Ext noOwn g s g' { s' with heap := h' } ∧ C.Rel σ' g' h' ∧ FrsR C g' h' (.list vs) D := by
  have hk' : ∀ b o, b ≠ L → s'.heap.get? b = some o → h'.get? b = some o := fun b o hb e => by rw [hs.2 b hb]; exact e
  have kept : Kept g' s'.heap h' := .of_but hk' x.offL
  obtain ⟨ws, ⟨n, e1⟩, e2⟩ := x.acc
  exact ⟨x.ext.after (tk := s'.toks) hk' x.newL, x.rel.kept kept, ws, ⟨n, hk' _ _ (Ne.symm x.LD) e1⟩, VRs_kept (C := C) kept e2⟩

theorem get?_le {h : Heap} {a : Addr} (ha : h.objs.size ≤ a) : h.get? a = none := by
  cases hq : h.get? a with
  | none => rfl
  | some o => exact absurd (Heap.lt_size hq) (Nat.not_lt.mpr ha)

theorem ne_add {b I : Nat} (h : b < I) (k : Nat) : b ≠ I + k := by omega
theorem add_ne (I : Nat) {j k : Nat} (h : j ≠ k) : I + j ≠ I + k := by omega
theorem self_ne (I : Nat) {k : Nat} (h : k ≠ 0) : I ≠ I + k := by omega
theorem not_between {b I : Nat} (h : b = I ∨ b < I) (k : Nat) (hk : k ≠ 0) : b ≠ I + k := by omega

theorem comp_enter {elt it cond : PE} {m : Nat} {t : Tgt} {e' tg it' : Expr} {ifs : List Expr} {sc : Scope} {pos : Pos} {v : PV} {σ1 σ2 : AH} {l vs : List PV} {RR : Value → Addr → Result → Shared → Prop}
    (hI : SndE C c d it) (hE : SndE C c d elt) (hT : SndT C c d cond) (hA : AOK A d) (F : FR C nm vm env ρ g s.heap) (R : C.Rel σ g s.heap)
    (hcI : chkE it nm vm it' = true) (ok : CompOK nm vm tg sc) (hnd : ((compVM vm t tg).map (·.2)).Nodup) (hcT : chkT (compNames nm sc.names) (compVM vm t tg) t tg = true) (hcE : chkE elt (compNames nm sc.names) (compVM vm t tg) e' = true)
    (hcC : ifsOk (isTT cond) (chkE cond (compNames nm sc.names) (compVM vm t tg)) ifs = true)
    (r1 : ev c it 0 ρ σ = .ok v σ1) (hi : items σ1 v = some l) (r2 : compL (ev c cond 0) (ev c elt m) t (kill (tgtSlots t) ρ) l (lockV σ1 v true) = .ok vs σ2) (hlen : vs.length ≤ 1000000)
    (hRR : ∀ D L g' s', CompEnd C g s (lockV σ2 v (lkV σ1 v)) vs D L g' s' → RR (.ref D) L (.ok .next) s') :
    wpAny (model C.prog C.w) A (eval it' env) (fun x s₁ => wpAny (model C.prog C.w) A (pyIter x) (fun it s₂ => wpAny (model C.prog C.w) A (newList []) (fun acc s₃ =>
      wpAny (model C.prog C.w) A (newFunctionEnv sc env.globals (closOf env sc.names []) [] env.qual none .none (some env)) (fun cenv s₄ =>
        codeAny (model C.prog C.w) A (.compStart (.ListComp e' [⟨tg, it', ifs, 0⟩] sc pos) 0 it acc { cenv with scope := relabel sc env }) (RR acc cenv.locals) s₄) E s₃) E s₂) E s₁) E s := by
  have hTlen := chkT_len hcT
  refine hI nm vm it' env 0 ρ σ g s A _ _ hcI F R hA (PostE.mk r1 fun g1 s1 x e1 R1 v1 => ?_)
  have F1 := F.ext R e1
  refine pyIter_sound hA.hand R1 v1 hi fun o fp P St W st hfp hP hpl => ?_
  refine wpAny_newList ?_ (by simp)
  generalize hI0 : s1.heap.objs.size = I at *
  have hs2 : (s1.heap.push o).objs.size = I + 1 := by rw [Heap.size_push, hI0]
  show wpAny _ _ _ _ _ { s1 with heap := (s1.heap.push o).push { cls := .type "list", data := .seq ([] : List Value).toArray } }
  refine wpAny_newFunctionEnv ok.cell (by intro y hy; simp at hy) (fun h4 hns hsb => ?_) ok.kind
  have hs3 : ((s1.heap.push o).push { cls := .type "list", data := .seq ([] : List Value).toArray }).objs.size = I + 2 := by rw [Heap.size_push, hs2]
  simp only [hs2, hs3] at hns hsb ⊢
  have k1 : ∀ b ob, s1.heap.get? b = some ob → h4.get? b = some ob := fun b ob e => by
    have hlt := Heap.lt_size e
    rw [hI0] at hlt
    rw [hsb.2 b (ne_add hlt 2)]
    exact Heap.get?_push_of_some _ (Heap.get?_push_of_some _ (Heap.get?_push_of_some _ e))
  have hD4 : h4.get? (I + 1) = some { cls := .type "list", data := .seq #[] } := by
    rw [hsb.2 _ (add_ne I (by decide))]
    refine Heap.get?_push_of_some _ ?_
    rw [← hs2]; exact Heap.get?_push_size _ rfl
  have hI4 : ∀ ob, (s1.heap.push o).get? I = some ob → h4.get? I = some ob := fun ob e => by
    rw [hsb.2 _ (self_ne I (by decide))]
    exact Heap.get?_push_of_some _ (Heap.get?_push_of_some _ e)
  have offI : I ∉ g1.μ ∧ ¬ g1.Φ I := R1.fresh (hI0 ▸ get?_size _)
  have offD : I + 1 ∉ g1.μ ∧ ¬ g1.Φ (I + 1) := R1.fresh (get?_le (by omega))
  have offL : I + 2 ∉ g1.μ ∧ ¬ g1.Φ (I + 2) := R1.fresh (get?_le (by omega))
  have kept : Kept g1 s1.heap h4 := .of_all k1
  have R4 : C.Rel σ1 g1 h4 := R1.kept kept
  have RL : C.Rel (lockV σ1 v true) (g1.withLk (lockSet g1 v)) h4 := lock_rel R4
  have F4 : FR C nm vm env ρ (g1.withLk (lockSet g1 v)) h4 := by
    have e : Ext noOwn g1 s1 g1 { s1 with heap := h4 } := Ext.all (tk := s1.toks) k1
    have F4' := F1.ext R1 e
    exact ⟨F4'.kind, F4'.names, F4'.glob, F4'.blt, F4'.inj, let ⟨m, n1, n2⟩ := F4'.ns; ⟨m, n1, fun x i v a1 a2 a3 a4 => let ⟨y, b1, b2⟩ := n2 x i v a1 a2 a3 a4; ⟨y, b1, VR_lk b2⟩⟩,
      fun x i a1 a2 => let ⟨cc, ob, b1, b2, b3⟩ := F4'.cl x i a1 a2; ⟨cc, ob, b1, b2, fun v a3 a4 => let ⟨y, c1, c2⟩ := b3 v a3 a4; ⟨y, c1, VR_lk c2⟩⟩, F4'.offL, F4'.offC, F4'.cliv, F4'.apart⟩
  have FC := F4.comp (t := t) ok hnd hTlen hns offL
  have fpx : ∀ b ∈ fp, b = I ∨ x = .ref b := hfp
  have xlive : ∀ b, x = .ref b → (b ∉ g1.μ ∨ lockSet g1 v b) ∧ ∃ ob, s1.heap.get? b = some ob := by
    rintro b rfl
    have dis : ∀ {a}, g1.Φ a → a ∉ g1.μ := fun hf hm => R1.rel.disj _ hm hf
    cases v1 with
    | tup h0 hl hr => obtain ⟨n, e⟩ := hl; exact ⟨.inl (dis h0), _, e⟩
    | lst h0 hl hr => obtain ⟨n, e⟩ := hl; exact ⟨.inl (dis h0), _, e⟩
    | dct h0 hm hl hr => obtain ⟨ob, _, _, e, _⟩ := hl; exact ⟨.inl (dis h0), _, e⟩
    | rng h0 hl => obtain ⟨_, _, _, _, _, e⟩ := hl; exact ⟨.inl (dis h0), _, e⟩
    | @ref j _ hj =>
      refine ⟨.inr (.inr ⟨j, rfl, hj⟩), ?_⟩
      have hm := List.mem_of_getElem? hj
      cases hq : s1.heap.get? b with
      | none => exact absurd hm (R1.fresh hq).1
      | some ob => exact ⟨ob, rfl⟩
  have xlt : ∀ b, x = .ref b → b < I := fun b hb => by obtain ⟨_, ob, e⟩ := xlive b hb; rw [← hI0]; exact Heap.lt_size e
  have fpI : ∀ b ∈ fp, b = I ∨ b < I := fun b hb => (fpx b hb).imp id (xlt b)
  have hcl : ∀ y cc, (closOf env sc.names []).lookup y = some cc → cc < I := fun y cc hc => by
    have h1 := closOf_sub _ [] (F1.freeCells ok) (fun _ _ q => (nomatch q)) y cc hc
    obtain ⟨_, ob, e, _⟩ := F1.cliv y cc h1
    rw [← hI0]; exact Heap.lt_size e
  have F0 : CF (I + 2) (I + 1) I fp (compEnvC sc (closOf env sc.names []) (I + 2) env) :=
    ⟨rfl, Ne.symm (self_ne I (by decide)), add_ne I (by decide), Ne.symm (self_ne I (by decide)), fun hm => not_between (fpI _ hm) 2 (by decide) rfl, fun hm => not_between (fpI _ hm) 1 (by decide) rfl, fun y cc hc => ⟨Nat.ne_of_lt (hcl y cc hc), ne_add (hcl y cc hc) 1, ne_add (hcl y cc hc) 2⟩⟩
  have hob : ∃ ob, (s1.heap.push o).get? I = some ob := let ⟨ob, _, q, _⟩ := hpl 0 _ st; ⟨ob, q⟩
  have st4 : St 0 h4 := W.frame 0 _ _ st fun b hb ob e => by
    rcases fpI b hb with rfl | hlt
    · exact hI4 ob e
    · rw [hsb.2 b (ne_add hlt 2)]; exact Heap.get?_push_of_some _ (Heap.get?_push_of_some _ e)
  have X0 : CS C (I + 2) (I + 1) I fp St (compNames nm sc.names) (compVM vm t tg) (compEnvC sc (closOf env sc.names []) (I + 2) env) (kill (tgtSlots t) ρ) 0 [] (lockV σ1 v true) (g1.withLk (lockSet g1 v)) { s1 with heap := h4, toks := s1.toks } :=
    ⟨RL, FC, st4, ⟨#[], ⟨0, hD4⟩, .nil⟩, offI, offD, let ⟨ob, q⟩ := hob; ⟨ob, hI4 ob q⟩, fun b hb => by
      rcases fpx b hb with rfl | hx
      · exact ⟨.inl offI.1, let ⟨ob, q⟩ := hob; ⟨ob, hI4 ob q⟩⟩
      · obtain ⟨q1, ob, q2⟩ := xlive b hx; exact ⟨q1, ob, k1 b ob q2⟩⟩
  have hoff3 : Off (own3 (I + 2) (I + 1) I) (g1.withLk (lockSet g1 v)) := fun b hb => by
    rcases hb with rfl | rfl | rfl
    · exact offI
    · exact offD
    · exact offL
  have loop := comp_loop (m := m) (sc := sc) (pos := pos) (iter := it') (vs := vs) (σE := σ2) (R := RR (.ref (I + 1)) (I + 2)) hE hT hA F0 W hpl hcE hcC hcT (fun y hy hc => ?_) (fun i v a1 a2 => (kill_get a1 a2).1) RL (fun i z u h1 h2 => VR_lk (VR_kept (C := C) kept (hP i z u h1 h2))) hoff3 hlen ?_ l.length 0 _ _ _ [] vs (Nat.zero_le _) rfl X0 (Ext.refl _ _) r2 rfl
  · exact codeAny_compStart_list loop (W.self 0 _ _ _ st4 loop)
  · rw [compNames_lookup] at hc
    obtain ⟨k, k1, k2⟩ := Option.map_eq_some_iff.mp hc
    have hm := lookup_mem_pair k1
    cases k with
    | cell => exact ok.cell _ hm rfl
    | free => exact (ok.free y hm).1 hy
    | _ => simp at k2
  · intro gn sn h' tk Rn Fn accn offDn En hk
    have hnone : ∀ a, own3 (I + 2) (I + 1) I a → s1.heap.get? a = none := fun a ha => get?_le (by rcases ha with rfl | rfl | rfl <;> omega)
    have x1 : Ext noOwn (g1.withLk (lockSet g1 v)) s1 gn sn := Ext.drop (Ext.all (tk := s1.toks) k1) En hnone
    have x2 : Ext noOwn (g1.withLk (lockSet g1 v)) s1 gn { sn with heap := h', toks := tk } := x1.after hk (hnone _ (.inl rfl))
    have x3 : Ext noOwn g1 s1 (gn.withLk g1.lk) { sn with heap := h', toks := tk } := x2.relock fun b hb => .inl hb
    have hmu : ∀ i, v = .ref i → ∃ a, g1.μ[i]? = some a := by
      rintro i rfl; cases v1 with | ref hj => exact ⟨_, hj⟩
    refine hRR (I + 1) (I + 2) (gn.withLk g1.lk) _ ⟨e1.trans x3, unlock_rel R1 Rn x2.pre x2.lock hmu, none_of_live e1.live (hnone _ (.inr (.inl rfl))), offDn, ?_, ?_, none_of_live e1.live (hnone _ (.inr (.inr rfl))), Fn.offL, add_ne I (by decide)⟩
    · obtain ⟨ws, a1, a2⟩ := accn; exact ⟨ws, a1, VRs_lk a2⟩
    · obtain ⟨m', n1, _⟩ := Fn.ns; exact ⟨m', n1⟩
end Mine

set_option autoImplicit false
set_option backward.match.sparseCases true
set_option linter.unusedVariables false
namespace Mine
open PySem PyProof.Rows PySem.SeqAt

variable {C : Fix} {c : Cx} {σ σ' : AH} {g g' : Cfg} {h h' : Heap} {s s' : Shared} {own : Addr → Prop} {A : Around} {d : Nat} {nm : NM} {vm : VM} {env : Env} {ρ : List PV}
  {Q : Value → Shared → Prop} {E : Value → Shared → Prop}

theorem folded_plain {e : Expr} {x : Value} (h : plainE e = true) : foldedSetIterable e env x = pure x := by
  cases e <;> first | rfl | cases h

theorem unlock_ok {α : Type} {v : PV} {b : Bool} {r : Res α} {a : α} {σ : AH} (h : unlock v b r = .ok a σ) : ∃ σ0, r = .ok a σ0 ∧ σ = lockV σ0 v b := by
  cases r with
  | ok x σ0 => cases h; exact ⟨σ0, rfl, rfl⟩
  | exc => cases h
  | bad => cases h

theorem comp_ev {elt it cond : PE} {t : Tgt} {m : Nat} (hp : PostE C own g s (ev c (.comp elt t it cond) m ρ σ) Q E) : ∃ v σ1 l vs σ2, ev c it 0 ρ σ = .ok v σ1 ∧ items σ1 v = some l ∧ compL (ev c cond 0) (ev c elt m.pred) t (kill (tgtSlots t) ρ) l (lockV σ1 v true) = .ok vs σ2 ∧ vs.length ≤ 1000000 ∧
    PostE C own g s (box m (.list vs) (lockV σ2 v (lkV σ1 v))) Q E := by
  obtain ⟨v, σ1, r1, hp⟩ := hp.bindE
  cases hi : items σ1 v with
  | none => rw [hi] at hp; exact hp.elim
  | some l =>
    rw [hi] at hp
    simp only at hp
    obtain ⟨vs, σ3, r3, hp⟩ := hp.bindE
    obtain ⟨σ2, r2, rfl⟩ := unlock_ok r3
    split at hp
    · rename_i hs
      exact ⟨v, σ1, l, vs, σ2, r1, hi, r2, by simpa [small] using hs, hp⟩
    · exact hp.elim

theorem sndE_comp {elt it cond : PE} {t : Tgt} (hI : SndE C c d it) (hE : SndE C c d elt) (hT : SndT C c d cond) : SndE C c d (.comp elt t it cond) := by
  intro nm vm e env m ρ σ g s A Q E hc F R hA hp
  obtain ⟨e', tg, it', ifs, sc, pos, rfl, c1, ok, c3, c4, c5, c6⟩ := comp_chk hc
  obtain ⟨v, σ1, l, vs, σ2, r1, hi, r2, hl, hp⟩ := comp_ev hp
  rw [eval_ListComp]
  refine wpAny_comprehension_free (use := none) rfl (fun x => folded_plain (chk_plain c1)) (closure_eq (F.freeCells ok)) ok.kind ok.names ?_
  refine comp_enter (RR := fun acc L => compPost (model C.prog C.w) A E none Q acc L) hI hE hT hA F R c1 ok c3 c4 c5 c6 r1 hi r2 hl fun D L g' s' X => ?_
  obtain ⟨mL, hn⟩ := X.ns
  refine ⟨mL, hn, fun h' hs => ?_⟩
  obtain ⟨x1, x2, x3⟩ := X.letGo hs
  exact box_sound hp x1 x2 X.newD X.offD.1 X.offD.2 x3

noncomputable def bareP0 : PE → Prop
  | .notE _ | .andE _ | .orE _ | .cmp .. => False
  | _ => True
theorem bare_of {pe : PE} (h : bareP0 pe) : ∀ nm vm e, chkE pe nm vm e = true → bareT e = true := by
  intro nm vm e hc
  cases e <;> first | rfl | skip
  all_goals (cases pe <;> first | exact h.elim | (exact absurd (show false = true from hc) Bool.false_ne_true) | skip)
  all_goals (rename_i op x p a; cases op <;> first | rfl | (exact absurd (show false = true from hc) Bool.false_ne_true))

structure SndP (C : Fix) (c : Cx) (d : Nat) (pe : PE) : Prop where
  e : SndE C c d pe
  t : SndT C c d pe
structure SndPs (C : Fix) (c : Cx) (d : Nat) (pes : PEs) : Prop where
  es : SndEs C c d pes
  an : SndB C c d .And (evAnd c) pes
  or : SndB C c d .Or (evOr c) pes
  hd : ∀ e es, pes = .cons e es → SndE C c d e

theorem bareP {pe : PE} (h : SndE C c d pe) (hb : bareP0 pe) : SndP C c d pe := ⟨h, sndT_bare h (bare_of hb)⟩

mutual
theorem sndP (K : C.OK) (X : CxOK C c d) : ∀ pe : PE, SndP C c d pe
  | .const k => bareP (sndE_const k) trivial
  | .loc i => bareP (sndE_loc i) trivial
  | .andE es => ⟨sndE_and (sndPs K X es).an, sndT_and (sndPs K X es).an⟩
  | .orE es => ⟨sndE_or (sndPs K X es).or, sndT_or (sndPs K X es).or⟩
  | .bin op a b => bareP (sndE_bin K (sndP K X a).e (sndP K X b).e) trivial
  | .notE a => ⟨sndE_not (sndP K X a).e, sndT_not (sndP K X a).t⟩
  | .neg a => bareP (sndE_neg (sndP K X a).e) trivial
  | .cmp op a b => ⟨sndE_cmp (sndP K X a).e (sndP K X b).e, sndT_cmp (sndP K X a).e (sndP K X b).e⟩
  | .tup es => bareP (sndE_tup (sndPs K X es).es) trivial
  | .lst es => bareP (sndE_lst (sndPs K X es).es) trivial
  | .edict => bareP sndE_edict trivial
  | .idx a i => bareP (sndE_idx (sndP K X a).e (sndP K X i).e) trivial
  | .comp elt t it cond => bareP (sndE_comp (sndP K X it).e (sndP K X elt).e (sndP K X cond).t) trivial
  | .call f args => bareP (sndE_call K X (sndPs K X args).es) trivial
  | .bi b args => bareP (sndE_bi K X (sndPs K X args).es (sndPs K X args).hd) trivial
  | .meth o m args => bareP (sndE_meth (sndP K X o).e (sndPs K X args).es) trivial
theorem sndPs (K : C.OK) (X : CxOK C c d) : ∀ pes : PEs, SndPs C c d pes
  | .nil => ⟨sndEs_nil, sndAnd_nil, sndOr_nil, fun _ _ q => nomatch q⟩
  | .cons e es => ⟨sndEs_cons (sndP K X e).e (sndPs K X es).es, sndAnd_cons (sndP K X e).e (sndP K X e).t (sndPs K X es).an, sndOr_cons (sndP K X e).e (sndP K X e).t (sndPs K X es).or,
      fun e' es' q => by cases q; exact (sndP K X e).e⟩
end
end Mine

set_option autoImplicit false
set_option backward.match.sparseCases true
set_option linter.unusedVariables false
namespace Mine
open PySem PyProof.Rows PySem.SeqAt

variable {C : Fix} {c : Cx} {σ σ' : AH} {g g' : Cfg} {h h' : Heap} {s s' : Shared} {own : Addr → Prop} {A : Around} {d : Nat} {nm : NM} {vm : VM} {env : Env} {ρ : List PV}
  {Q : Flow → Shared → Prop} {E : Value → Shared → Prop}

noncomputable def FlwR (C : Fix) (g : Cfg) (h : Heap) : Flw → Flow → Prop
  | .next, f => f = .next
  | .brk, f => f = .brk
  | .cont, f => f = .cont
  | .ret v, f => ∃ x, f = .ret x ∧ C.VR g h v x

/-- behind a statement -/
noncomputable def PostX (C : Fix) (nm : NM) (vm : VM) (env : Env) (g : Cfg) (s : Shared) (r : Res FE) (Q : Flow → Shared → Prop) : Prop := match r with
  | .ok r σ' => ∀ g' s' fl, Ext (ownOf env) g s g' s' → C.Rel σ' g' s'.heap → FR C nm vm env r.2 g' s'.heap → FlwR C g' s'.heap r.1 fl → Q fl s'
  | _ => False

theorem PostX.bindX {α : Type} {r : Res α} {f : α → AH → Res FE} (hp : PostX C nm vm env g s (r.bind f) Q) : ∃ v σ1, r = .ok v σ1 ∧ PostX C nm vm env g s (f v σ1) Q := by
  cases r with
  | ok v σ1 => exact ⟨v, σ1, rfl, hp⟩
  | exc => exact hp.elim
  | bad => exact hp.elim
theorem PostX.shift {r : Res FE} (e : Ext (ownOf env) g s g' s') (hp : PostX C nm vm env g s r Q) : PostX C nm vm env g' s' r Q := by
  cases r with
  | ok v σ1 => exact fun g2 s2 fl e2 R2 F2 f2 => hp g2 s2 fl (e.trans e2) R2 F2 f2
  | exc => exact hp
  | bad => exact hp
theorem PostX.mk {r : Res FE} {f : Flw} {ρ' : List PV} (hr : r = .ok (f, ρ') σ') (h : ∀ g' s' fl, Ext (ownOf env) g s g' s' → C.Rel σ' g' s'.heap → FR C nm vm env ρ' g' s'.heap → FlwR C g' s'.heap f fl → Q fl s') : PostX C nm vm env g s r Q := by rw [hr]; exact h

theorem FR.off (F : FR C nm vm env ρ g h) : Off (ownOf env) g := fun b hb => by
  rcases hb with rfl | ⟨x, hx⟩
  · exact F.offL
  · exact F.offC x b hx

noncomputable def SndS (C : Fix) (c : Cx) (d : Nat) (ps : PS) : Prop := ∀ nm vm st env ρ σ g s A (Q : Flow → Shared → Prop) (E : Value → Shared → Prop), chkS ps nm vm st = true → FR C nm vm env ρ g s.heap → C.Rel σ g s.heap → AOK A d →
  PostX C nm vm env g s (exec c ps ρ σ) Q → wpAny (model C.prog C.w) A (PySem.exec st env) Q E s
noncomputable def SndSs (C : Fix) (c : Cx) (d : Nat) (ps : PSs) : Prop := ∀ nm vm st env ρ σ g s A (Q : Flow → Shared → Prop) (E : Value → Shared → Prop), chkSs ps nm vm st = true → FR C nm vm env ρ g s.heap → C.Rel σ g s.heap → AOK A d →
  PostX C nm vm env g s (execs c ps ρ σ) Q → wpAny (model C.prog C.w) A (PySem.execs st env) Q E s

theorem sndSs_nil : SndSs C c d .nil := by
  intro nm vm st env ρ σ g s A Q E hc F R hA hp
  cases st with
  | nil => exact wpAny_execs_nil (hp g s .next (Ext.refl g s) R F rfl)
  | cons => cases hc
theorem sndSs_cons {p : PS} {ps : PSs} (h1 : SndS C c d p) (h2 : SndSs C c d ps) : SndSs C c d (.cons p ps) := by
  intro nm vm st env ρ σ g s A Q E hc F R hA hp
  cases st with
  | nil => cases hc
  | cons st sts =>
    obtain ⟨c1, c2⟩ := and2 (show (chkS p nm vm st && chkSs ps nm vm sts) = true from hc)
    simp only [execs] at hp
    obtain ⟨⟨f, ρ1⟩, σ1, r1, hp⟩ := hp.bindX
    refine wpAny_execs_cons (h1 nm vm st env ρ σ g s A _ _ c1 F R hA (PostX.mk r1 fun g1 s1 fl e1 R1 F1 hf => ?_))
    cases f with
    | next => cases hf; exact h2 nm vm sts env ρ1 σ1 g1 s1 A _ _ c2 F1 R1 hA (hp.shift e1)
    | brk => cases hf; exact hp g1 s1 .brk e1 R1 F1 rfl
    | cont => cases hf; exact hp g1 s1 .cont e1 R1 F1 rfl
    | ret v => obtain ⟨x, rfl, hv⟩ := hf; exact hp g1 s1 _ e1 R1 F1 ⟨x, rfl, hv⟩

theorem sndS_ret {m : Nat} {e : PE} (h : SndE C c d e) : SndS C c d (.ret m e) := by
  intro nm vm st env ρ σ g s A Q E hc F R hA hp
  cases st <;> try (exact absurd (show false = true from hc) Bool.false_ne_true)
  rename_i v pos
  cases v <;> try (exact absurd (show false = true from hc) Bool.false_ne_true)
  rename_i v
  simp only [exec] at hp
  obtain ⟨x, σ1, r1, hp⟩ := hp.bindX
  refine wpAny_Return_some (h nm vm v env m ρ σ g s A _ _ hc F R hA (PostE.mk r1 fun g1 s1 y e1 R1 v1 => ?_))
  exact hp g1 s1 _ e1.weaken R1 (F.ext R e1) ⟨y, rfl, v1⟩

theorem swaps_notComp {e : Expr} {tgt : Option Expr} {n : Nat} (h : isComp e = false) : swapsWith e tgt n env = pure false := by
  cases e <;> first | rfl | cases h
theorem interactive_fn (F : FR C nm vm env ρ g h) : interactive env = false := by
  unfold interactive; rw [F.kind]; rfl

theorem sndS_expr {e : PE} (h : SndE C c d e) : SndS C c d (.expr e) := by
  intro nm vm st env ρ σ g s A Q E hc F R hA hp
  cases st <;> try (exact absurd (show false = true from hc) Bool.false_ne_true)
  rename_i v pos
  obtain ⟨c1, c2⟩ := and2 (show (!isComp v && chkE e nm vm v) = true from hc)
  simp only [exec] at hp
  obtain ⟨x, σ1, r1, hp⟩ := hp.bindX
  rw [exec_Expr env v pos (interactive_fn F) (swaps_notComp (by simpa using c1))]
  refine wpAny_bind (wpAny_standAt (wpAny_bind (h nm vm v env 0 ρ σ g s A _ _ c2 F R hA (PostE.mk r1 fun g1 s1 y e1 R1 v1 => ?_))))
  exact wpAny_dropValue (hp g1 s1 .next e1.weaken R1 (F.ext R e1) rfl)

theorem sndS_ite {t : PE} {a b : PSs} (ht : SndT C c d t) (ha : SndSs C c d a) (hb : SndSs C c d b) : SndS C c d (.ite t a b) := by
  intro nm vm st env ρ σ g s A Q E hc F R hA hp
  cases st <;> try (exact absurd (show false = true from hc) Bool.false_ne_true)
  rename_i t' a' b' pos
  obtain ⟨h12, h3⟩ := and2 (show (chkE t nm vm t' && chkSs a nm vm a' && chkSs b nm vm b') = true from hc)
  obtain ⟨h1, h2⟩ := and2 h12
  simp only [exec] at hp
  obtain ⟨x, σ1, r1, hp⟩ := hp.bindX
  cases hq : truth σ1 x with
  | none => rw [hq] at hp; exact hp.elim
  | some q =>
    rw [hq] at hp
    refine wpAny_If (ht nm vm t' env ρ σ g s A _ _ h1 F R hA (PostT.mk r1 hq fun g1 s1 e1 R1 => ?_))
    cases q with
    | true => exact ha nm vm a' env ρ σ1 g1 s1 A _ _ h2 (F.ext R e1) R1 hA (hp.shift e1.weaken)
    | false => exact hb nm vm b' env ρ σ1 g1 s1 A _ _ h3 (F.ext R e1) R1 hA (hp.shift e1.weaken)

/-! ### assignments -/
theorem assign_store (F : FR C nm vm env ρ g s.heap) (R : C.Rel σ g s.heap) {x : Str} {i : Nat} {v : PV} {y : Value} {Q : Unit → Shared → Prop} (hx : vm.lookup x = some i) (ho : isOwn (nm.lookup x) = true) (hv : C.VR g s.heap v y)
    (hq : ∀ s', FR C nm vm env (ρ.set i v) g s'.heap → C.Rel σ g s'.heap → Ext (ownOf env) g s g s' → Q () s') : wpAny (model C.prog C.w) A (storeName env x y) Q E s :=
  store_sound F R hx ho hv (.inl rfl) (fun _ cc hc => .inr ⟨x, hc⟩) hq

theorem exec_Assign_use (x pos' value pos) (hs : swapsWith value (some (.Name x pos')) pos.line env = pure true) : PySem.exec (.Assign [.Name x pos'] value pos) env = (do
    standAt pos
    evalThenUse value env (assign (.Name x pos') env)
    pure .next) := by
  have e : PySem.exec (.Assign [.Name x pos'] value pos) env = (do
      standAt pos
      if ← swapsWith value (some (.Name x pos')) pos.line env then
        evalThenUse value env (assign (.Name x pos') env)
        return .next
      let v ← eval value env
      standAt pos'
      bindName env x v
      pure .next) := rfl
  rw [e, hs]; rfl

theorem box_mk {m : Nat} {f : Frs} {u : PV} {σ1 : AH} {D : Addr} (hb : box m f σ = .ok u σ1) (R : C.Rel σ g h) (hn : D ∉ g.μ) (hf : ¬ g.Φ D) (hs : s.heap = h) (hr : FrsR C g s.heap f D) : ∃ g1, (g1 = g.frz D ∨ g1 = g.trk D) ∧ C.Rel σ1 g1 s.heap ∧ C.VR g1 s.heap u (.ref D) := by
  subst hs
  cases m with
  | zero => cases hb; exact ⟨_, .inl rfl, R.frz hn hr.live, hr.vr (R.notSys hf)⟩
  | succ m =>
    cases hb
    refine ⟨_, .inr rfl, R.trk hn hf (hr.ob fun q => hn (R.rel.lkμ _ q)), .ref ?_⟩
    show (g.μ ++ [D])[σ.length]? = some D
    rw [← R.rel.len]; simp
theorem comp_ev_eq {elt it cond : PE} {t : Tgt} {m : Nat} {u : PV} {σ9 : AH} (hp : ev c (.comp elt t it cond) m ρ σ = .ok u σ9) : ∃ v σ1 l vs σ2, ev c it 0 ρ σ = .ok v σ1 ∧ items σ1 v = some l ∧ compL (ev c cond 0) (ev c elt m.pred) t (kill (tgtSlots t) ρ) l (lockV σ1 v true) = .ok vs σ2 ∧ vs.length ≤ 1000000 ∧
    box m (.list vs) (lockV σ2 v (lkV σ1 v)) = .ok u σ9 := by
  simp only [ev] at hp
  cases r1 : ev c it 0 ρ σ with
  | exc => rw [r1] at hp; cases hp
  | bad => rw [r1] at hp; cases hp
  | ok v σ1 =>
    rw [r1] at hp
    simp only [Res.bind] at hp
    cases hi : items σ1 v with
    | none => rw [hi] at hp; cases hp
    | some l =>
      rw [hi] at hp
      simp only at hp
      cases r2 : compL (ev c cond 0) (ev c elt m.pred) t (kill (tgtSlots t) ρ) l (lockV σ1 v true) with
      | exc => rw [r2] at hp; cases hp
      | bad => rw [r2] at hp; cases hp
      | ok vs σ2 =>
        rw [r2] at hp
        simp only [unlock] at hp
        split at hp
        · rename_i hs
          exact ⟨v, σ1, l, vs, σ2, rfl, hi, r2, by simpa [small] using hs, hp⟩
        · cases hp

theorem sndS_assign {i m : Nat} {e : PE} (h : SndE C c d e) (hsub : ∀ elt t it cond, e = .comp elt t it cond → SndE C c d it ∧ SndE C c d elt ∧ SndT C c d cond) : SndS C c d (.assign i m e) := by
  intro nm vm st env ρ σ g s A Q E hc F R hA hp
  obtain ⟨tgts, v, pos, rfl⟩ : ∃ tgts v pos, st = .Assign tgts v pos := by cases st <;> first | exact ⟨_, _, _, rfl⟩ | exact absurd (show false = true from hc) Bool.false_ne_true
  rcases tgts with _ | ⟨tg, _ | ⟨t2, ts⟩⟩
  · exact absurd (show false = true from hc) Bool.false_ne_true
  · obtain ⟨x, p, rfl⟩ : ∃ x p, tg = .Name x p := by cases tg <;> first | exact ⟨_, _, rfl⟩ | exact absurd (show false = true from hc) Bool.false_ne_true
    obtain ⟨c12, c3⟩ := and2 (show (vm.lookup x == some i && isOwn (nm.lookup x) && chkE e nm vm v) = true from hc)
    obtain ⟨c1, c2⟩ := and2 c12
    have c1 : vm.lookup x = some i := by simpa using c1
    simp only [exec] at hp
    obtain ⟨u, σ1, r1, hp1⟩ := hp.bindX
    have plain : swapsWith v (some (.Name x p)) pos.line env = pure false → wpAny (model C.prog C.w) A (PySem.exec (.Assign [.Name x p] v pos) env) Q E s := fun hs => by
      refine wpAny_Assign_Name (h nm vm v env m ρ σ g s A _ _ c3 F R hA (PostE.mk r1 fun g1 s1 y e1 R1 v1 => ?_)) hs
      exact assign_store (F.ext R e1) R1 c1 c2 v1 fun s2 F2 R2 e2 => hp1 g1 s2 .next (e1.weaken.trans e2) R2 F2 rfl
    cases hcv : isComp v with
    | false => exact plain (swaps_notComp hcv)
    | true =>
      obtain ⟨elt, t, it, cond, rfl⟩ : ∃ elt t it cond, e = .comp elt t it cond := by
        cases v <;> first | cases hcv | skip
        all_goals (cases e <;> first | exact ⟨_, _, _, _, rfl⟩ | (exact absurd (show false = true from c3) Bool.false_ne_true))
      obtain ⟨hI, hE, hT⟩ := hsub _ _ _ _ rfl
      obtain ⟨e', tg, it', ifs, sc, pos', rfl, d1, ok, d3, d4, d5, d6⟩ := comp_chk c3
      obtain ⟨bq, hbq⟩ : ∃ b : Bool, swapsWith (.ListComp e' [⟨tg, it', ifs, 0⟩] sc pos') (some (.Name x p)) pos.line env = pure b := ⟨_, rfl⟩
      cases bq with
      | false => exact plain hbq
      | true =>
        rw [exec_Assign_use x p _ pos hbq]
        refine wpAny_bind (wpAny_standAt (wpAny_bind ?_))
        obtain ⟨w, σ2, l, vs, σ3, q1, hi, q2, hl, hbx⟩ := comp_ev_eq r1
        show wpAny _ _ (comprehension (.ListComp e' [⟨tg, it', ifs, 0⟩] sc pos') sc env (firstIterPos [⟨tg, it', ifs, 0⟩] pos') (newList []) false (eval it' env) (some (assign (.Name x p) env)) >>= fun _ => pure ()) _ _ _
        refine wpAny_bind (wpAny_comprehension_free (use := some (assign (.Name x p) env)) rfl (fun x => folded_plain (chk_plain d1)) (closure_eq (F.freeCells ok)) ok.kind ok.names ?_)
        refine comp_enter (RR := fun acc L => compPost (model C.prog C.w) A E (some (assign (.Name x p) env)) _ acc L) hI hE hT hA F R d1 ok d3 d4 d5 d6 q1 hi q2 hl fun D L g' s' X => ?_
        obtain ⟨ws, w1, w2⟩ := X.acc
        obtain ⟨g1, hg1, R1, v1⟩ := box_mk (s := s') hbx X.rel X.offD.1 X.offD.2 rfl ⟨ws, w1, w2⟩
        have e1 : Ext noOwn g s g1 s' := by
          rcases hg1 with rfl | rfl
          · exact X.ext.frz X.newD
          · exact X.ext.trk X.newD
        have offL1 : L ∉ g1.μ ∧ ¬ g1.Φ L := by
          rcases hg1 with rfl | rfl
          · exact ⟨X.offL.1, fun q => q.elim X.offL.2 X.LD⟩
          · exact ⟨fun q => (List.mem_append.mp q).elim X.offL.1 fun q => X.LD (List.mem_singleton.mp q), X.offL.2⟩
        have F1 := F.ext R e1
        obtain ⟨mL, hn⟩ := X.ns
        show wpAny _ _ (assign (.Name x p) env (.ref D)) _ _ _
        refine assign_name (assign_store F1 R1 c1 c2 v1 fun s2 F2 R2 e2 => ?_)
        have hLl : ∀ b, ownOf env b → b ≠ L := fun b hb q => by
          subst q
          rcases hb with hb | ⟨z, hz⟩
          · obtain ⟨m', n1, _⟩ := F.ns
            obtain ⟨o, ho⟩ := Heap.Ns.live n1
            rw [← hb, X.newL] at ho; cases ho
          · obtain ⟨o, ob, ho, _⟩ := F.cliv z b hz
            rw [X.newL] at ho; cases ho
        refine ⟨mL, ?_, fun h' hs => wpAny_pure (wpAny_pure ?_)⟩
        · obtain ⟨o, es, ep, ho, r⟩ := hn
          exact ⟨o, es, ep, e2.keep _ _ ho (.inl offL1.1) (fun q => hLl L q rfl), r⟩
        · have hk' : ∀ b o, b ≠ L → s2.heap.get? b = some o → h'.get? b = some o := fun b o hb e => by rw [hs.2 b hb]; exact e
          have kept : Kept g1 s2.heap h' := .of_but hk' offL1
          have hoff : Off (· = L) g1 := fun b hb => by subst hb; exact offL1
          have e3 : Ext (ownOf env) g s g1 s2 := e1.weaken.trans e2
          have e4 : Ext (ownOf env) g s g1 { s2 with heap := h' } := ⟨e3.pre, e3.sub, e3.newμ, e3.newΦ, e3.lock, fun b o e q1 q2 => hk' b o (fun q => by rw [q, X.newL] at e; cases e) (e3.keep b o e q1 q2), fun b hb => by
            obtain ⟨o, ho⟩ := Option.isSome_iff_exists.mp (e3.live b hb)
            exact isSome_of (hk' b o (fun q => by rw [q, X.newL] at hb; cases hb) ho), e3.gens, e3.os⟩
          refine hp1 g1 _ .next e4 (R2.kept kept) ?_ rfl
          have hLn : ∀ b, (s.heap.get? b).isSome = true → b ≠ L := fun b hb q => by rw [q, X.newL] at hb; cases hb
          obtain ⟨m', n1, n2⟩ := F2.ns
          refine ⟨F2.kind, F2.names, F2.glob, F2.blt, F2.inj, ⟨m', ?_, fun x i v a1 a2 a3 a4 => ?_⟩, fun x i a1 a2 => ?_, F2.offL, F2.offC, fun x cc b1 => ?_, F2.apart⟩
          · obtain ⟨o, es, ep, ho, r⟩ := n1
            exact ⟨o, es, ep, hk' _ _ (hLl _ (.inl rfl)) ho, r⟩
          · obtain ⟨y, b1, b2⟩ := n2 x i v a1 a2 a3 a4; exact ⟨y, b1, VR_kept (C := C) kept b2⟩
          · obtain ⟨cc, o, b1, ⟨ob, b2, b2'⟩, b3⟩ := F2.cl x i a1 a2
            exact ⟨cc, o, b1, ⟨ob, hk' _ _ (hLl _ (.inr ⟨x, b1⟩)) b2, b2'⟩, fun v a3 a4 => let ⟨y, c1, c2⟩ := b3 v a3 a4; ⟨y, c1, VR_kept (C := C) kept c2⟩⟩
          · obtain ⟨o, ob, b2, b2'⟩ := F2.cliv x cc b1
            exact ⟨o, ob, hk' _ _ (hLl _ (.inr ⟨x, b1⟩)) b2, b2'⟩
  · exact absurd (show false = true from (by cases tg <;> exact hc)) Bool.false_ne_true

/-! ### setting an item -/
theorem setAt_sound {Q : Unit → Shared → Prop} (R : C.Rel σ g s.heap) {a k v : PV} {x y z : Value} (hx : C.VR g s.heap a x) (hk : C.VR g s.heap k y) (hv : C.VR g s.heap v z) {σ4 : AH} (he : setAt σ a k v = some σ4)
    (hq : ∀ g' s', Ext noOwn g s g' s' → C.Rel σ4 g' s'.heap → Q () s') : wpAny (model C.prog C.w) A (setItem x y z) Q E s := by
  rcases two_elim (fun o => o = some σ4) he with ⟨r, i, e1, e2, he⟩ | he
  · rw [refOf_eq e1] at hx
    obtain ⟨p, rfl, hi⟩ := VR_inv hx
    obtain ⟨t, rfl⟩ := str_vr e2 hk
    obtain ⟨l, e, he⟩ := bind_elim (fun o => o = some σ4) (fun q => nomatch q) he
    split at he
    · rename_i hc
      cases he
      obtain ⟨hl, kvs, h3, h4⟩ := tracked_dict R (openD_eq e) hi
      have h5 := h4.length
      have hm := small_le hc
      refine wpAny_setItem_pairs (strKind_is C.prog C.w i t) h3 (fun h' hd hsb => ?_) (by rw [← h5, sizeLine_eq]; omega)
      have hk' : ∀ b o, b ≠ p → s.heap.get? b = some o → h'.get? b = some o := fun b o hb e => by rw [hsb.2 b hb]; exact e
      have hf := R.rel.disj p (List.mem_of_getElem? hi)
      refine hq g _ (set_ext (List.mem_of_getElem? hi) hl hk' (let ⟨o, es, ep, e, _⟩ := hd; isSome_of e)) (R.set hi hk' ⟨⟨fun q => (nomatch q), fun q => (hl q).elim⟩, _, hd, ?_⟩)
      exact (vrd_but (C := C) hf hk' h4).put (vr_but (C := C) hf hk' hv)
    · cases he
  · cases he

theorem swaps_sub {e o i : Expr} {p : Pos} {n : Nat} : swapsWith e (some (.Subscript o i p)) n env = pure false := by
  cases e <;> rfl

theorem sndS_setitem {o i v : PE} {m : Nat} (ho : SndE C c d o) (hi : SndE C c d i) (hv : SndE C c d v) : SndS C c d (.setitem o i m v) := by
  intro nm vm st env ρ σ g s A Q E hc F R hA hp
  obtain ⟨tgts, w, pos, rfl⟩ : ∃ tgts w pos, st = .Assign tgts w pos := by cases st <;> first | exact ⟨_, _, _, rfl⟩ | exact absurd (show false = true from hc) Bool.false_ne_true
  rcases tgts with _ | ⟨tg, _ | ⟨t2, ts⟩⟩
  · exact absurd (show false = true from hc) Bool.false_ne_true
  · obtain ⟨o', i', p, rfl⟩ : ∃ o' i' p, tg = .Subscript o' i' p := by cases tg <;> first | exact ⟨_, _, _, rfl⟩ | exact absurd (show false = true from hc) Bool.false_ne_true
    obtain ⟨c12, c3⟩ := and2 (show (chkE o nm vm o' && chkE i nm vm i' && chkE v nm vm w) = true from hc)
    obtain ⟨c1, c2⟩ := and2 c12
    simp only [exec] at hp
    obtain ⟨x, σ1, r1, hp⟩ := hp.bindX
    obtain ⟨a, σ2, r2, hp⟩ := hp.bindX
    obtain ⟨k, σ3, r3, hp⟩ := hp.bindX
    refine wpAny_Assign_Subscript (hv nm vm w env m ρ σ g s A _ _ c3 F R hA (PostE.mk r1 fun g1 s1 vx e1 R1 v1 => ?_)) swaps_sub
    refine ho nm vm o' env 0 ρ σ1 g1 s1 A _ _ c1 (F.ext R e1) R1 hA (PostE.mk r2 fun g2 s2 va e2 R2 v2 => ?_)
    refine hi nm vm i' env 0 ρ σ2 g2 s2 A _ _ c2 ((F.ext R e1).ext R1 e2) R2 hA (PostE.mk r3 fun g3 s3 vk e3 R3 v3 => ?_)
    cases hs : setAt σ3 a k x with
    | none => rw [hs] at hp; exact hp.elim
    | some σ4 =>
      rw [hs] at hp
      refine setAt_sound R3 (VR_ext R2 e3 Off.none v2) v3 (VR_ext R1 (e2.trans e3) Off.none v1) hs fun g4 s4 e4 R4 => ?_
      have e := ((e1.trans e2).trans e3).trans e4
      exact hp g4 s4 .next e.weaken R4 (F.ext R e) rfl
  · exact absurd (show false = true from (by cases tg <;> exact hc)) Bool.false_ne_true
end Mine

set_option autoImplicit false
set_option backward.match.sparseCases true
set_option linter.unusedVariables false
namespace Mine
open PySem PyProof.Rows PySem.SeqAt

variable {C : Fix} {c : Cx} {σ σ' : AH} {g g' : Cfg} {h h' : Heap} {s s' : Shared} {own : Addr → Prop} {A : Around} {d : Nat} {nm : NM} {vm : VM} {env : Env} {ρ : List PV}
  {Q : Flow → Shared → Prop} {E : Value → Shared → Prop}

theorem FR.kill (F : FR C nm vm env ρ g h) (ks : List Nat) : FR C nm vm env (Mine.kill ks ρ) g h := F.sub fun i v h1 h2 => (kill_get h1 h2).2

/-- the loop's state -/
structure LS (C : Fix) (I : Addr) (fp : List Addr) (St : Nat → Heap → Prop) (nm : NM) (vm : VM) (env : Env) (ρ : List PV) (i : Nat) (σ : AH) (g : Cfg) (s : Shared) : Prop where
  rel : C.Rel σ g s.heap
  fr : FR C nm vm env ρ g s.heap
  st : St i s.heap
  offI : I ∉ g.μ ∧ ¬ g.Φ I
  liveI : ∃ o, s.heap.get? I = some o
  keep : ∀ b ∈ fp, (b ∉ g.μ ∨ g.lk b) ∧ ¬ ownOf env b ∧ ∃ o, s.heap.get? b = some o

variable {I : Addr} {fp : List Addr} {St : Nat → Heap → Prop} {i n : Nat} {P : Nat → Value → Prop}

theorem LS.body (x : LS C I fp St nm vm env ρ i σ g s) (W : Walks C.prog C.w A I fp [I] n P St) (hI : I ∈ fp) {ρ' : List PV} (e : Ext (ownOf env) g s g' s') (R' : C.Rel σ' g' s'.heap) (F' : FR C nm vm env ρ' g' s'.heap) : LS C I fp St nm vm env ρ' i σ' g' s' where
  rel := R'
  fr := F'
  st := W.frame _ _ _ x.st fun b hb o ho => e.keep b o ho (x.keep b hb).1 (x.keep b hb).2.1
  offI := by obtain ⟨o, ho⟩ := x.liveI; exact ⟨e.notμ ho x.offI.1, e.notΦ ho x.offI.2⟩
  liveI := by obtain ⟨o, ho⟩ := x.liveI; exact ⟨o, e.keep _ _ ho (.inl x.offI.1) (x.keep I hI).2.1⟩
  keep := fun b hb => by
    obtain ⟨k1, k2, o, ho⟩ := x.keep b hb
    exact ⟨k1.imp (e.notμ ho) fun q => by rw [e.lock]; exact q, k2, o, e.keep b o ho k1 k2⟩

theorem LS.next (hI : I ∈ fp) (x : LS C I fp St nm vm env ρ i σ g s) {h' : Heap} {tk j : Nat} (hk : ∀ b o, b ∉ [I] → s.heap.get? b = some o → h'.get? b = some o) (hst : St j h') (hI' : ∃ o, h'.get? I = some o) :
    LS C I fp St nm vm env ρ j σ g { s with heap := h', toks := tk } ∧ Ext (· = I) g s g { s with heap := h', toks := tk } := by
  have hk' : ∀ b o, b ≠ I → s.heap.get? b = some o → h'.get? b = some o := fun b o hb e => hk b o (by simpa using hb) e
  have e : Ext (· = I) g s g { s with heap := h', toks := tk } := Ext.heap (fun b o e _ hb => hk' b o hb e) fun b hb => by
    by_cases hbI : b = I
    · subst hbI; obtain ⟨o, ho⟩ := hI'; exact isSome_of ho
    · obtain ⟨o, ho⟩ := Option.isSome_iff_exists.mp hb; exact isSome_of (hk' b o hbI ho)
  have hoff : Off (· = I) g := fun b hb => by subst hb; exact x.offI
  have kept : Kept g s.heap h' := .of_but hk' x.offI
  have hno := (x.keep I hI).2.1
  refine ⟨⟨x.rel.kept kept, x.fr.ext' x.rel e hoff (fun q => hno (.inl q.symm)) (fun y cc hc q => hno (.inr ⟨y, q ▸ hc⟩)), hst, x.offI, hI', fun b hb => ⟨(x.keep b hb).1, (x.keep b hb).2.1, ?_⟩⟩, e⟩
  by_cases hbI : b = I
  · subst hbI; exact hI'
  · obtain ⟨o, ho⟩ := (x.keep b hb).2.2; exact ⟨o, hk' b o hbI ho⟩

noncomputable def ownI (env : Env) (I : Addr) : Addr → Prop := fun b => ownOf env b ∨ b = I

theorem forL_cons {body : List PV → AH → Res FE} {t : Tgt} {ks : List Nat} {x : PV} {xs : List PV} {r : FE} (h : forL body t ks (x :: xs) ρ σ = .ok r σ') : ∃ ρ1 r1 σ1, bindT t x (kill ks ρ) = some ρ1 ∧ body ρ1 σ = .ok r1 σ1 ∧
    (match r1.1 with
      | .next => forL body t ks xs r1.2 σ1 = .ok r σ'
      | .cont => forL body t ks xs r1.2 σ1 = .ok r σ'
      | .brk => (.next, kill ks r1.2) = r ∧ σ1 = σ'
      | .ret v => (.ret v, r1.2) = r ∧ σ1 = σ') := by
  rw [forL] at h
  cases hb : bindT t x (kill ks ρ) with
  | none => rw [hb] at h; cases h
  | some ρ1 =>
    rw [hb] at h
    simp only at h
    cases hr : body ρ1 σ with
    | exc => rw [hr] at h; cases h
    | bad => rw [hr] at h; cases h
    | ok r1 σ1 =>
      rw [hr] at h
      refine ⟨ρ1, r1, σ1, rfl, hr, ?_⟩
      simp only [Res.bind] at h
      obtain ⟨f, ρ2⟩ := r1
      cases f with
      | next => exact h
      | cont => exact h
      | brk => exact ok_inj h
      | ret v => exact ok_inj h

theorem for_loop {body : PSs} {t : Tgt} {ks : List Nat} {tg : Expr} {sts : List Stmt} {l : List PV} {gs : Cfg} {ss : Shared} {σs σE : AH} {rE : FE} {R : Result → Shared → Prop}
    (hB : SndSs C c d body) (hA : AOK A d) (W : Walks C.prog C.w A I fp [I] l.length P St) (hpl : ∀ i h, St i h → PlainIter h I) (hI : I ∈ fp)
    (hcB : chkSs body nm vm sts = true) (hcT : chkT nm vm t tg = true)
    (Rs : C.Rel σs gs ss.heap) (hP : ∀ i z u, P i z → l[i]? = some u → C.VR gs ss.heap u z) (hoff : Off (ownI env I) gs)
    (hR : ∀ gn sn h' tk fl, C.Rel σE gn h' → FR C nm vm env rE.2 gn h' → FlwR C gn h' rE.1 fl → Ext (ownI env I) gs ss gn sn → (∀ b o, b ≠ I → sn.heap.get? b = some o → h'.get? b = some o) → R (.ok fl) { sn with heap := h', toks := tk }) :
    ∀ (k i : Nat) (gi : Cfg) (si : Shared) (σi : AH) (ρi : List PV), i ≤ l.length → k = l.length - i → LS C I fp St nm vm env ρi i σi gi si → Ext (ownI env I) gs ss gi si → forL (execs c body) t ks (l.drop i) ρi σi = .ok rE σE →
      codeAny (model C.prog C.w) A (.forLoop tg (.ref I) sts [] env) R si := by
  intro k i gi si σi ρi hi hk X0 E0 hrun
  refine codeAny_forLoop_any (fun k s' => ∃ i gi σi ρi, i ≤ l.length ∧ k = l.length - i ∧ LS C I fp St nm vm env ρi i σi gi s' ∧ Ext (ownI env I) gs ss gi s' ∧ forL (execs c body) t ks (l.drop i) ρi σi = .ok rE σE) ?_ k ⟨i, gi, σi, ρi, hi, hk, X0, E0, hrun⟩
  clear hrun E0 X0 hk hi
  rintro k s' ⟨i, gi, σi, ρi, hi, rfl, X, E0, hrun⟩
  have hno := (X.keep I hI).2.1
  by_cases hin : i = l.length
  · subst hin
    rw [List.drop_length, forL] at hrun
    replace hrun := ok_inj hrun
    obtain ⟨rfl, rfl⟩ := hrun
    refine W.done s' _ _ X.st fun h' tk hk => ?_
    have hk' : ∀ b o, b ≠ I → s'.heap.get? b = some o → h'.get? b = some o := fun b o hb e => hk b o (by simpa using hb) e
    have kept : Kept gi s'.heap h' := .of_but hk' X.offI
    have F0 := X.fr.kill ks
    have hfr : FR C nm vm env (kill ks ρi) gi h' := by
      obtain ⟨m', n1, n2⟩ := F0.ns
      refine ⟨F0.kind, F0.names, F0.glob, F0.blt, F0.inj, ⟨m', ?_, fun x i v a1 a2 a3 a4 => ?_⟩, fun x i a1 a2 => ?_, F0.offL, F0.offC, fun x cc b1 => ?_, F0.apart⟩
      · obtain ⟨o, es, ep, ho, r⟩ := n1
        exact ⟨o, es, ep, hk' _ _ (fun q => hno (.inl q.symm)) ho, r⟩
      · obtain ⟨y, b1, b2⟩ := n2 x i v a1 a2 a3 a4; exact ⟨y, b1, VR_kept (C := C) kept b2⟩
      · obtain ⟨cc, o, b1, ⟨ob, b2, b2'⟩, b3⟩ := F0.cl x i a1 a2
        exact ⟨cc, o, b1, ⟨ob, hk' _ _ (fun q => hno (.inr ⟨x, q ▸ b1⟩)) b2, b2'⟩, fun v a3 a4 => let ⟨y, c1, c2⟩ := b3 v a3 a4; ⟨y, c1, VR_kept (C := C) kept c2⟩⟩
      · obtain ⟨o, ob, b2, b2'⟩ := F0.cliv x cc b1
        exact ⟨o, ob, hk' _ _ (fun q => hno (.inr ⟨x, q ▸ b1⟩)) b2, b2'⟩
    exact wpAny_execs_nil (hR gi s' h' tk .next (X.rel.kept kept) hfr rfl E0 hk')
  · have hlt : i < l.length := Nat.lt_of_le_of_ne hi hin
    have hdrop : l.drop i = l[i] :: l.drop (i + 1) := List.drop_eq_getElem_cons hlt
    rw [hdrop] at hrun
    obtain ⟨ρ1, ⟨f1, ρ2⟩, σ1, hb, hr1, hr2⟩ := forL_cons hrun
    refine W.item i s' _ _ hlt X.st fun z h' tk hz hst hk => ?_
    obtain ⟨ob, nI, q1, q2, q3⟩ := hpl (i + 1) h' hst
    obtain ⟨X1, e1⟩ := X.next hI (tk := tk) hk hst ⟨ob, q1⟩
    refine owned_go (.inl ⟨ob, nI, q1, q2, q3⟩) (chkT_list hcT) ?_
    have E1 := E0.trans (e1.mono fun a ha => .inr ha)
    have hv : C.VR gi h' l[i] z := VR_ext Rs E1 hoff (hP i z _ hz (by simp [hlt]))
    have F1 := X1.fr.kill ks
    refine assign_sound (own := ownOf env) hA.hand F1.off (.inl rfl) hcT F1 X1.rel hv (fun x _ _ cc hcc => .inr ⟨x, hcc⟩) hb fun s2 F2 R2 e2 => ?_
    have X2 := X1.body W hI e2 R2 F2
    have E2 := E1.trans (e2.mono fun a ha => .inl ha)
    refine hB nm vm sts env ρ1 σi gi s2 A _ _ hcB F2 R2 hA (PostX.mk hr1 fun g3 s3 fl e3 R3 F3 hf => ?_)
    have X3 := X2.body W hI e3 R3 F3
    have E3 := E2.trans (e3.mono fun a ha => .inl ha)
    have same : ∀ (fl : Flow), (∀ b o, b ≠ I → s3.heap.get? b = some o → s3.heap.get? b = some o) := fun _ b o _ e => e
    cases f1 with
    | next => cases hf; exact ⟨l.length - (i + 1), by omega, i + 1, g3, σ1, ρ2, by omega, rfl, X3, E3, hr2⟩
    | cont => cases hf; exact ⟨l.length - (i + 1), by omega, i + 1, g3, σ1, ρ2, by omega, rfl, X3, E3, hr2⟩
    | brk =>
      cases hf
      obtain ⟨rfl, rfl⟩ := hr2
      exact hR g3 s3 s3.heap s3.toks .next R3 (F3.kill ks) rfl E3 (same .next)
    | ret v =>
      obtain ⟨x, rfl, hv⟩ := hf
      obtain ⟨rfl, rfl⟩ := hr2
      exact hR g3 s3 s3.heap s3.toks (.ret x) R3 F3 ⟨x, rfl, hv⟩ E3 (same .next)

theorem FR.lk {L : Addr → Prop} (F : FR C nm vm env ρ g h) : FR C nm vm env ρ (g.withLk L) h :=
  ⟨F.kind, F.names, F.glob, F.blt, F.inj, let ⟨m, n1, n2⟩ := F.ns; ⟨m, n1, fun x i v a1 a2 a3 a4 => let ⟨y, b1, b2⟩ := n2 x i v a1 a2 a3 a4; ⟨y, b1, VR_lk b2⟩⟩,
    fun x i a1 a2 => let ⟨cc, ob, b1, b2, b3⟩ := F.cl x i a1 a2; ⟨cc, ob, b1, b2, fun v a3 a4 => let ⟨y, c1, c2⟩ := b3 v a3 a4; ⟨y, c1, VR_lk c2⟩⟩, F.offL, F.offC, F.cliv, F.apart⟩
theorem FlwR.lk {L : Addr → Prop} {f : Flw} {fl : Flow} (x : FlwR C g h f fl) : FlwR C (g.withLk L) h f fl := by
  cases f with
  | ret v => obtain ⟨y, h1, h2⟩ := x; exact ⟨y, h1, VR_lk h2⟩
  | _ => exact x

theorem Ext.dropTo {own2 : Addr → Prop} (x : Ext own g s g' s') {g2 : Cfg} {s2 : Shared} (y : Ext own2 g' s' g2 s2) (hn : ∀ a, own2 a → own a ∨ s.heap.get? a = none) : Ext own g s g2 s2 :=
  let z : Ext (fun a => own a ∨ own2 a) g s g2 s2 := (x.mono fun a ha => .inl ha).trans (y.mono fun a ha => .inr ha)
  { z with keep := fun b o e hb ho => z.keep b o e hb fun q => q.elim ho fun q => (hn b q).elim ho fun q => by rw [q] at e; cases e }
theorem Ext.afterTo (x : Ext own g s g' s') {tk : Nat} (hk : ∀ b o, b ≠ I → s'.heap.get? b = some o → h'.get? b = some o) (hI : s.heap.get? I = none) : Ext own g s g' { s' with heap := h', toks := tk } :=
  ⟨x.pre, x.sub, x.newμ, x.newΦ, x.lock, fun b o e q1 q2 => hk b o (fun q => by rw [q, hI] at e; cases e) (x.keep b o e q1 q2), fun b hb => by
    obtain ⟨o, ho⟩ := Option.isSome_iff_exists.mp (x.live b hb)
    exact isSome_of (hk b o (fun q => by rw [q, hI] at hb; cases hb) ho), x.gens, x.os⟩

theorem sndS_for {t : Tgt} {it : PE} {body : PSs} {ks : List Nat} (hIt : SndE C c d it) (hB : SndSs C c d body) : SndS C c d (.forS t it body ks) := by
  intro nm vm st env ρ σ g s A Q E hc F R hA hp
  obtain ⟨tg, it', sts, orelse, pos, rfl⟩ : ∃ tg it' sts orelse pos, st = .For tg it' sts orelse pos := by cases st <;> first | exact ⟨_, _, _, _, _, rfl⟩ | exact absurd (show false = true from hc) Bool.false_ne_true
  cases orelse <;> try (exact absurd (show false = true from hc) Bool.false_ne_true)
  obtain ⟨c12, c3⟩ := and2 (show (chkT nm vm t tg && chkE it nm vm it' && chkSs body nm vm sts) = true from hc)
  obtain ⟨c1, c2⟩ := and2 c12
  obtain ⟨v, σ1, r1, hp⟩ := hp.bindX
  cases hi : items σ1 v with
  | none => rw [hi] at hp; exact hp.elim
  | some l =>
    rw [hi] at hp
    simp only at hp
    cases hr : forL (execs c body) t ks l ρ (lockV σ1 v true) with
    | exc => rw [hr] at hp; exact hp.elim
    | bad => rw [hr] at hp; exact hp.elim
    | ok rE σE =>
      rw [hr] at hp
      refine wpAny_For (hIt nm vm it' env 0 ρ σ g s A _ _ c2 F R hA (PostE.mk r1 fun g1 s1 x e1 R1 v1 => ?_)) (fun x => folded_plain (chk_plain c2))
      have F1 := F.ext R e1
      refine pyIter_sound hA.hand R1 v1 hi fun o fp P St W st hfp hP hpl => ?_
      generalize hI0 : s1.heap.objs.size = I at *
      have k1 : ∀ b ob, s1.heap.get? b = some ob → (s1.heap.push o).get? b = some ob := fun b ob e => Heap.get?_push_of_some _ e
      have hnone : s1.heap.get? I = none := hI0 ▸ get?_size _
      have offI : I ∉ g1.μ ∧ ¬ g1.Φ I := R1.fresh hnone
      have kept : Kept g1 s1.heap (s1.heap.push o) := .of_all k1
      have R2 : C.Rel σ1 g1 (s1.heap.push o) := R1.kept kept
      have RL : C.Rel (lockV σ1 v true) (g1.withLk (lockSet g1 v)) (s1.heap.push o) := lock_rel R2
      have eP : Ext noOwn g1 s1 g1 { s1 with heap := s1.heap.push o } := Ext.all (tk := s1.toks) k1
      have F2 : FR C nm vm env ρ (g1.withLk (lockSet g1 v)) (s1.heap.push o) := (F1.ext R1 eP).lk
      have ownNe : ∀ b, ownOf env b → b ≠ I := fun b hb q => by
        subst q
        rcases hb with hb | ⟨z, hz⟩
        · obtain ⟨m', n1, _⟩ := F1.ns
          obtain ⟨o, ho⟩ := Heap.Ns.live n1
          rw [← hb, hnone] at ho; cases ho
        · obtain ⟨o, ob, ho, _⟩ := F1.cliv z b hz
          rw [hnone] at ho; cases ho
      have xlive : ∀ b, x = .ref b → (b ∉ g1.μ ∨ lockSet g1 v b) ∧ (∃ ob, s1.heap.get? b = some ob) ∧ ¬ ownOf env b := by
        rintro b rfl
        have dis : ∀ {a}, g1.Φ a → a ∉ g1.μ := fun hf hm => R1.rel.disj _ hm hf
        cases v1 with
        | tup h0 hl hr => obtain ⟨n, e⟩ := hl; exact ⟨.inl (dis h0), ⟨_, e⟩, fun q => (F1.off b q).2 h0⟩
        | lst h0 hl hr => obtain ⟨n, e⟩ := hl; exact ⟨.inl (dis h0), ⟨_, e⟩, fun q => (F1.off b q).2 h0⟩
        | dct h0 hm hl hr => obtain ⟨ob, _, _, e, _⟩ := hl; exact ⟨.inl (dis h0), ⟨_, e⟩, fun q => (F1.off b q).2 h0⟩
        | rng h0 hl => obtain ⟨_, _, _, _, _, e⟩ := hl; exact ⟨.inl (dis h0), ⟨_, e⟩, fun q => (F1.off b q).2 h0⟩
        | @ref j _ hj =>
          have hm := List.mem_of_getElem? hj
          refine ⟨.inr (.inr ⟨j, rfl, hj⟩), ?_, fun q => (F1.off b q).1 hm⟩
          cases hq : s1.heap.get? b with
          | none => exact absurd hm (R1.fresh hq).1
          | some ob => exact ⟨ob, rfl⟩
      obtain ⟨obI, _, hobI, _⟩ := hpl 0 _ st
      have hIfp : I ∈ fp := W.sub I (List.mem_singleton.mpr rfl)
      have X0 : LS C I fp St nm vm env ρ 0 (lockV σ1 v true) (g1.withLk (lockSet g1 v)) { s1 with heap := s1.heap.push o } :=
        ⟨RL, F2, st, offI, ⟨obI, hobI⟩, fun b hb => by
          rcases hfp b hb with rfl | hx
          · exact ⟨.inl offI.1, fun q => ownNe b q rfl, obI, hobI⟩
          · obtain ⟨q1, ⟨ob, q2⟩, q3⟩ := xlive b hx; exact ⟨q1, q3, ob, k1 b ob q2⟩⟩
      have hoff3 : Off (ownI env I) (g1.withLk (lockSet g1 v)) := fun b hb => by
        rcases hb with hb | rfl
        · exact F1.off b hb
        · exact offI
      refine for_loop hB hA W hpl hIfp c3 c1 RL (fun i z u h1 h2 => VR_lk (VR_kept (C := C) kept (hP i z u h1 h2))) hoff3 ?_ l.length 0 _ _ _ ρ (Nat.zero_le _) rfl X0 (Ext.refl _ _) hr
      intro gn sn h' tk fl Rn Fn hf En hk
      have x1 : Ext (ownOf env) (g1.withLk (lockSet g1 v)) s1 gn sn := Ext.dropTo (Ext.all (tk := s1.toks) k1) En fun a ha => ha.imp id fun q => by rw [q]; exact hnone
      have x2 : Ext (ownOf env) (g1.withLk (lockSet g1 v)) s1 gn { sn with heap := h', toks := tk } := x1.afterTo hk hnone
      have x3 : Ext (ownOf env) g1 s1 (gn.withLk g1.lk) { sn with heap := h', toks := tk } := x2.relock fun b hb => .inl hb
      have hmu : ∀ i, v = .ref i → ∃ a, g1.μ[i]? = some a := by
        rintro i rfl; cases v1 with | ref hj => exact ⟨_, hj⟩
      exact hp (gn.withLk g1.lk) _ fl (e1.weaken.trans x3) (unlock_rel R1 Rn x2.pre x2.lock hmu) Fn.lk hf.lk

/-! ### while -/
mutual
theorem sndS (K : C.OK) (X : CxOK C c d) : ∀ ps : PS, SndS C c d ps
  | .assign i m e => sndS_assign (sndP K X e).e fun elt t it cond _ => ⟨(sndP K X it).e, (sndP K X elt).e, (sndP K X cond).t⟩
  | .setitem o i m v => sndS_setitem (sndP K X o).e (sndP K X i).e (sndP K X v).e
  | .expr e => sndS_expr (sndP K X e).e
  | .ret m e => sndS_ret (sndP K X e).e
  | .ite t a b => sndS_ite (sndP K X t).t (sndSs K X a) (sndSs K X b)
  | .forS t it body ks => sndS_for (sndP K X it).e (sndSs K X body)
theorem sndSs (K : C.OK) (X : CxOK C c d) : ∀ ps : PSs, SndSs C c d ps
  | .nil => sndSs_nil
  | .cons p ps => sndSs_cons (sndS K X p) (sndSs K X ps)
end
end Mine

set_option autoImplicit false
set_option backward.match.sparseCases true
set_option linter.unusedVariables false
namespace Mine
open PySem PyProof.Rows PySem.SeqAt

variable {C : Fix} {c : Cx} {σ σ' : AH} {g g' : Cfg} {h h' : Heap} {s s' : Shared} {own : Addr → Prop} {A : Around} {d : Nat} {nm : NM} {vm : VM} {env : Env} {ρ : List PV}
  {Q : Value → Shared → Prop} {E : Value → Shared → Prop}

/-! ## freezing -/
/-- the new tracked things become frozen -/
noncomputable def Cfg.cool (g : Cfg) (n : Nat) : Cfg := ⟨g.μ.take n, fun a => g.Φ a ∨ a ∈ g.μ.drop n, g.lk⟩

section
variable {n : Nat} {dd : Nat → Option PV}

theorem frz3_sound (hd : ∀ (i : Nat) v' a, dd i = some v' → g.μ[i]? = some a → C.VR (g.cool n) h v' (.ref a)) :
    (∀ {v x}, C.VR g h v x → ∀ v', frzW dd v = some v' → C.VR (g.cool n) h v' x) ∧ (∀ {v x}, C.VRs g h v x → ∀ v', frzWs dd v = some v' → C.VRs (g.cool n) h v' x) ∧ (∀ {v x}, C.VRd g h v x → ∀ v', frzWd dd v = some v' → C.VRd (g.cool n) h v' x) := by
  refine VR.ind (fun _ e => Option.some.inj e ▸ .none) (fun b _ e => Option.some.inj e ▸ .bool b) (fun i t _ e => Option.some.inj e ▸ .int i t) (fun y t _ e => Option.some.inj e ▸ .str y t)
    (fun l a vs ha hl _ q v' e => ?_) (fun l a vs ha hl _ q v' e => ?_) (fun l a vs ha hm hl _ q v' e => ?_) (fun _ _ _ ha hl _ e => Option.some.inj e ▸ .rng (.inl ha) hl) (fun i a hi v' e => hd _ _ _ e hi)
    (fun _ e => Option.some.inj e ▸ .nil) (fun v x l r _ _ a b v' e => ?_) (fun _ e => Option.some.inj e ▸ .nil) (fun k v x l r _ _ a b v' e => ?_)
  · obtain ⟨l', e1, rfl⟩ := Option.map_eq_some_iff.mp (show (frzWs dd l).map PV.tup = some v' from e)
    exact .tup (.inl ha) hl (q _ e1)
  · obtain ⟨l', e1, rfl⟩ := Option.map_eq_some_iff.mp (show (frzWs dd l).map PV.lst = some v' from e)
    exact .lst (.inl ha) hl (q _ e1)
  · obtain ⟨l', e1, rfl⟩ := Option.map_eq_some_iff.mp (show (frzWd dd l).map PV.dct = some v' from e)
    exact .dct (.inl ha) hm hl (q _ e1)
  · have e := (frzWs.eq_2 dd v l).symm.trans e
    cases h1 : frzW dd v with
    | none => rw [h1] at e; cases e
    | some v' =>
      cases h2 : frzWs dd l with
      | none => rw [h1, h2] at e; cases e
      | some l' => rw [h1, h2] at e; cases e; exact .cons (a _ h1) (b _ h2)
  · have e := (frzWd.eq_2 dd k v l).symm.trans e
    cases h1 : frzW dd v with
    | none => rw [h1] at e; cases e
    | some v' =>
      cases h2 : frzWd dd l with
      | none => rw [h1, h2] at e; cases e
      | some l' => rw [h1, h2] at e; cases e; exact .cons (a _ h1) (b _ h2)
theorem frzW_sound (hd : ∀ (i : Nat) v' a, dd i = some v' → g.μ[i]? = some a → C.VR (g.cool n) h v' (.ref a)) {v v' : PV} {x : Value} (q : C.VR g h v x) (e : frzW dd v = some v') : C.VR (g.cool n) h v' x := (frz3_sound hd).1 q _ e
theorem frzWs_sound (hd : ∀ (i : Nat) v' a, dd i = some v' → g.μ[i]? = some a → C.VR (g.cool n) h v' (.ref a)) {v v' : List PV} {x : List Value} (q : C.VRs g h v x) (e : frzWs dd v = some v') : C.VRs (g.cool n) h v' x := (frz3_sound hd).2.1 q _ e
theorem frzWd_sound (hd : ∀ (i : Nat) v' a, dd i = some v' → g.μ[i]? = some a → C.VR (g.cool n) h v' (.ref a)) {v v' : List (Str × PV)} {x : List (Str × Value)} (q : C.VRd g h v x) (e : frzWd dd v = some v') : C.VRd (g.cool n) h v' x := (frz3_sound hd).2.2 q _ e

theorem cool_low {i : Nat} {a : Addr} (hi : i < n) (h : g.μ[i]? = some a) : (g.cool n).μ[i]? = some a := by
  show (g.μ.take n)[i]? = some a
  rw [List.getElem?_take_of_lt hi]; exact h
theorem cool_high {i : Nat} {a : Addr} (hi : ¬ i < n) (h : g.μ[i]? = some a) : a ∈ g.μ.drop n := by
  have : (g.μ.drop n)[i - n]? = some a := by rw [List.getElem?_drop]; rw [show n + (i - n) = i by omega]; exact h
  exact List.mem_of_getElem? this

theorem frz_sound (R : C.Rel σ g h) : ∀ (k : Nat) {v v' : PV} {x : Value}, frz n σ k v = some v' → C.VR g h v x → C.VR (g.cool n) h v' x
  | 0, v, v', x, e, hv => by
    refine frzW_sound (fun i v' a e1 e2 => ?_) hv e
    split at e1
    · rename_i hi; cases e1; exact .ref (cool_low hi e2)
    · cases e1
  | k + 1, v, v', x, e, hv => by
    refine frzW_sound (fun i v' a e1 e2 => ?_) hv e
    split at e1
    · rename_i hi; cases e1; exact .ref (cool_low hi e2)
    · rename_i hi
      have hin := cool_high hi e2
      cases ho : σ[i]? with
      | none => rw [ho] at e1; cases e1
      | some o =>
        rw [ho] at e1
        have hor := R.rel.objs i o a ho e2
        cases o with
        | list b l =>
          obtain ⟨_, vs, h1, h2⟩ := hor
          obtain ⟨l', e3, rfl⟩ := Option.map_eq_some_iff.mp e1
          exact .lst (.inr hin) h1 (frzWs_sound (fun j v'' a' e4 e5 => frz_sound R k e4 (.ref e5)) h2 e3)
        | dict b l =>
          obtain ⟨_, kvs, h1, h2⟩ := hor
          obtain ⟨l', e3, rfl⟩ := Option.map_eq_some_iff.mp e1
          exact .dct (.inr hin) (R.notSys (R.rel.disj a (List.mem_of_getElem? e2))) h1 (frzWd_sound (fun j v'' a' e4 e5 => frz_sound R k e4 (.ref e5)) h2 e3)

theorem low3 {g0 : Cfg} {h0 : Heap} (e : g0.μ.length = n) :
    (∀ {v y}, C.VR g0 h0 v y → ∀ x, C.VR g h v x → C.VR (g.cool n) h v x) ∧ (∀ {v y}, C.VRs g0 h0 v y → ∀ x, C.VRs g h v x → C.VRs (g.cool n) h v x) ∧ (∀ {v y}, C.VRd g0 h0 v y → ∀ x, C.VRd g h v x → C.VRd (g.cool n) h v x) := by
  refine VR.ind (fun _ q => by cases q; exact .none) (fun b _ q => by cases q; exact .bool b) (fun i t _ q => by cases q; exact .int i _) (fun y t _ q => by cases q; exact .str y _)
    (fun l a vs _ _ _ r v' q => ?_) (fun l a vs _ _ _ r v' q => ?_) (fun l a vs _ _ _ _ r v' q => ?_) (fun _ _ _ _ _ _ q => ?_) (fun i a hi v' q => ?_)
    (fun _ q => by cases q; exact .nil) (fun v x l r _ _ a b v' q => ?_) (fun _ q => by cases q; exact .nil) (fun k v x l r _ _ a b v' q => ?_)
  · cases q with | tup ha hl hr' => exact .tup (.inl ha) hl (r _ hr')
  · cases q with | lst ha hl hr' => exact .lst (.inl ha) hl (r _ hr')
  · cases q with | dct ha hm hl hr' => exact .dct (.inl ha) hm hl (r _ hr')
  · cases q with | rng ha hl => exact .rng (.inl ha) hl
  · cases q with | ref hj => exact .ref (cool_low (e ▸ (List.getElem?_eq_some_iff.mp hi).1) hj)
  · cases q with | cons a' b' => exact .cons (a _ a') (b _ b')
  · cases q with | cons a' b' => exact .cons (a _ a') (b _ b')
theorem vrs_low {g0 : Cfg} {h0 : Heap} {v : List PV} {x0 x : List Value} (a : C.VRs g0 h0 v x0) (b : C.VRs g h v x) (e : g0.μ.length = n) : C.VRs (g.cool n) h v x := (low3 e).2.1 a _ b
theorem vrd_low {g0 : Cfg} {h0 : Heap} {v : List (Str × PV)} {x0 x : List (Str × Value)} (a : C.VRd g0 h0 v x0) (b : C.VRd g h v x) (e : g0.μ.length = n) : C.VRd (g.cool n) h v x := (low3 e).2.2 a _ b
end

theorem take_pre {α : Type} {l l' : List α} (h : l <+: l') : l'.take l.length = l := by
  obtain ⟨t, rfl⟩ := h; simp

theorem cool_rel (R0 : C.Rel σ g s.heap) (R : C.Rel σ' g' s'.heap) (e : Ext noOwn g s g' s') (ht : σ'.take σ.length = σ) : C.Rel σ (g'.cool σ.length) s'.heap := by
  have hμ : (g'.cool σ.length).μ = g.μ := by rw [← R0.rel.len]; exact take_pre e.pre
  have hnd : (g'.μ.take σ.length ++ g'.μ.drop σ.length).Nodup := by rw [List.take_append_drop]; exact R.rel.nodup
  have hdis := (List.nodup_append.mp hnd).2.2
  have hlow : ∀ {i : Nat}, i < σ.length → σ[i]? = σ'[i]? := fun {i} hi => by
    have : (σ'.take σ.length)[i]? = σ'[i]? := List.getElem?_take_of_lt hi
    rw [ht] at this; exact this
  refine ⟨{ len := by rw [hμ]; exact R0.rel.len, nodup := (List.nodup_append.mp hnd).1, disj := fun a ha q => q.elim (R.rel.disj a (List.mem_of_mem_take ha)) fun q => hdis a ha a q rfl, lkμ := fun a ha => ?_, live := fun a ha => ha.elim (R.rel.live a) fun q => ?_, base := R.rel.base, baseμ := fun a ha => R.rel.baseμ a (List.mem_of_mem_take ha), objs := fun i o a h1 h2 => ?_ }, fun b hb => .inl (R.bas b hb), R.sys⟩
  · rw [hμ]; exact R0.rel.lkμ a (by rw [← e.lock]; exact ha)
  · have hm := List.mem_of_mem_drop q
    cases hq : s'.heap.get? a with
    | none => exact absurd hm (R.fresh hq).1
    | some o => rfl
  · have hi : i < σ.length := (List.getElem?_eq_some_iff.mp h1).1
    have h2' : g'.μ[i]? = some a := by
      have : (g'.μ.take σ.length)[i]? = some a := h2
      rwa [List.getElem?_take_of_lt hi] at this
    have h2'' : g.μ[i]? = some a := by rw [hμ] at h2; exact h2
    have hor := R.rel.objs i o a (by rw [← hlow hi]; exact h1) h2'
    have hor0 := R0.rel.objs i o a h1 h2''
    cases o with
    | list b l =>
      obtain ⟨q1, vs, q2, q3⟩ := hor
      obtain ⟨_, vs0, _, q4⟩ := hor0
      exact ⟨q1, vs, q2, vrs_low q4 q3 R0.rel.len⟩
    | dict b l =>
      obtain ⟨q1, vs, q2, q3⟩ := hor
      obtain ⟨_, vs0, _, q4⟩ := hor0
      exact ⟨q1, vs, q2, vrd_low q4 q3 R0.rel.len⟩

theorem cool_ext (R0 : C.Rel σ g s.heap) (R : C.Rel σ' g' s'.heap) (e : Ext noOwn g s g' s') : Ext noOwn g s (g'.cool σ.length) s' := by
  have hμ : (g'.cool σ.length).μ = g.μ := by rw [← R0.rel.len]; exact take_pre e.pre
  have hnd : (g'.μ.take σ.length ++ g'.μ.drop σ.length).Nodup := by rw [List.take_append_drop]; exact R.rel.nodup
  have hdis := (List.nodup_append.mp hnd).2.2
  refine ⟨by rw [hμ]; exact List.prefix_refl _, fun a ha => .inl (e.sub a ha), fun a ha => .inl (by rw [hμ] at ha; exact ha), fun a ha => ?_, e.lock, e.keep, e.live, e.gens, e.os⟩
  rcases ha with ha | ha
  · exact e.newΦ a ha
  · rcases e.newμ a (List.mem_of_mem_drop ha) with q | q
    · have : a ∈ (g'.cool σ.length).μ := by rw [hμ]; exact q
      exact absurd rfl (hdis a this a ha)
    · exact .inr q
end Mine

set_option autoImplicit false
set_option backward.match.sparseCases true
set_option linter.unusedVariables false
namespace Mine
open PySem PyProof.Rows PySem.SeqAt PySem.Calls

/-! ## functions -/
theorem zip_lookup_some {α : Type} : ∀ (ns : List Str) (vs : List α) (i : Nat) (n : Str) (v : α), ns.Nodup → ns[i]? = some n → vs[i]? = some v → (ns.zip vs).lookup n = some v
  | m :: ns, w :: vs, 0, n, v, hn, h1, h2 => by
    simp only [List.getElem?_cons_zero, Option.some.injEq] at h1 h2
    subst h1 h2; simp
  | m :: ns, w :: vs, i + 1, n, v, hn, h1, h2 => by
    simp only [List.getElem?_cons_succ] at h1 h2
    rw [List.nodup_cons] at hn
    have hne : (n == m) = false := by
      rw [beq_eq_false_iff_ne]; rintro rfl
      exact hn.1 (List.mem_of_getElem? h1)
    rw [List.zip_cons_cons, List.lookup_cons, hne]
    exact zip_lookup_some ns vs i n v hn.2 h1 h2
theorem zip_all {α : Type} {ns : List Str} {vs : List α} (hn : ns.Nodup) (hl : vs.length = ns.length) {n : Str} (h : n ∈ ns) : ((ns.zip vs).lookup n).isSome = true := by
  obtain ⟨i, hi⟩ := List.getElem?_of_mem h
  have hlt := (List.getElem?_eq_some_iff.mp hi).1
  rw [zip_lookup_some ns vs i n (vs[i]'(by lia)) hn hi (by simp)]; rfl
theorem filterMap_same {α β : Type} {f g : α → Option β} : ∀ {l : List α}, (∀ x ∈ l, f x = g x) → l.filterMap f = l.filterMap g
  | [], _ => rfl
  | x :: l, h => by
    rw [List.filterMap_cons, List.filterMap_cons, h x (List.mem_cons_self ..), filterMap_same fun y hy => h y (List.mem_cons_of_mem _ hy)]
theorem zip_again {α : Type} : ∀ (ns : List Str) (vs : List α), ns.Nodup → vs.length = ns.length → ns.filterMap (fun n => ((ns.zip vs).lookup n).map (n, ·)) = ns.zip vs
  | [], vs, _, _ => by cases vs <;> rfl
  | n :: ns, [], _, h => by cases h
  | n :: ns, v :: vs, hn, hl => by
    rw [List.nodup_cons] at hn
    rw [List.filterMap_cons, List.zip_cons_cons, List.lookup_cons]
    simp only [beq_self_eq_true, Option.map_some]
    congr 1
    refine Eq.trans ?_ (zip_again ns vs hn.2 (by simpa using hl))
    refine filterMap_same fun m hm => ?_
    have : (m == n) = false := by rw [beq_eq_false_iff_ne]; rintro rfl; exact hn.1 hm
    rw [List.lookup_cons, this]

theorem bind_plain {name : Str} {params : Arguments} {body : List Stmt} {scope : Scope} {pm code doc : Value} {vals : List Value} (h1 : params.posonlyargs = []) (h2 : params.vararg = none) (h3 : params.kwonlyargs = []) (h4 : params.kwarg = none)
    (hn : (params.args.map (·.arg)).Nodup) (hl : vals.length = params.args.length) : bindArgs (docDef name params body scope pm code doc) ⟨vals, []⟩ = pure ((params.args.map (·.arg)).zip vals) := by
  have hl' : vals.length = (params.args.map (·.arg)).length := by simpa using hl
  have hm : ((params.args.map (·.arg)).filter fun n => (((params.args.map (·.arg)).zip vals).lookup n).isNone) = [] := by
    rw [List.filter_eq_nil_iff]
    intro n hn'
    have := zip_all hn hl' hn'
    rw [Option.isNone_iff_eq_none]
    intro q; rw [q] at this; cases this
  have hf := zip_again (params.args.map (·.arg)) vals hn hl'
  unfold bindArgs docDef
  simp only [h1, h2, h3, h4, List.map_nil, List.nil_append, List.append_nil, List.forIn_nil, pure_bind]
  have hs : seqItems? Value.none = pure none := rfl
  simp only [hs, pure_bind, Option.getD_none, List.length_nil, Nat.zero_sub, List.drop_nil, Nat.sub_zero, List.zip_nil_right, List.forIn_nil]
  have hgt : ¬ vals.length > (params.args.map (·.arg)).length := by lia
  have hgt' : (decide (vals.length > (params.args.map (·.arg)).length)) = false := by simp; lia
  rw [List.take_length]
  simp only [hgt', hm, List.isEmpty_nil, Bool.not_true, Bool.false_eq_true, if_false, Bool.false_and, hf]

noncomputable def ownNames (nm : NM) : List Str := (nm.filter fun p => isOwn (some p.2)).map (·.1)
noncomputable def vmOf (ns : List Str) : VM := ns.zip (List.range ns.length)

noncomputable def fnChk (F : Fn) (params : Arguments) (body : List Stmt) (scope : Scope) : Bool :=
  params.posonlyargs.isEmpty && params.vararg.isNone && params.kwonlyargs.isEmpty && params.kwarg.isNone && decide (params.args.length = F.nargs) &&
  decide ((ownNames scope.names).take F.nargs = params.args.map (·.arg)) && decide ((scope.names.map (·.1)).Nodup) && scope.kind == .function && !scope.isGenerator && !scope.isCoroutine &&
  scope.names.all (fun p => match p.2 with | .local | .cell | .globalImplicit => true | _ => false) && chkSs F.body scope.names (vmOf (ownNames scope.names)) body

structure FnChk (F : Fn) (params : Arguments) (body : List Stmt) (scope : Scope) : Prop where
  p1 : params.posonlyargs = []
  p2 : params.vararg = none
  p3 : params.kwonlyargs = []
  p4 : params.kwarg = none
  len : params.args.length = F.nargs
  take : (ownNames scope.names).take F.nargs = params.args.map (·.arg)
  nodup : (scope.names.map (·.1)).Nodup
  kind : scope.kind = .function
  gen : scope.isGenerator = false
  cor : scope.isCoroutine = false
  kinds : ∀ p ∈ scope.names, p.2 = .local ∨ p.2 = .cell ∨ p.2 = .globalImplicit
  chk : chkSs F.body scope.names (vmOf (ownNames scope.names)) body = true
theorem fnChk_of {F : Fn} {params : Arguments} {body : List Stmt} {scope : Scope} (h : fnChk F params body scope = true) : FnChk F params body scope := by
  unfold fnChk at h
  simp only [Bool.and_eq_true, decide_eq_true_eq, List.isEmpty_iff, Option.isNone_iff_eq_none, beq_iff_eq, Bool.not_eq_true'] at h
  obtain ⟨⟨⟨⟨⟨⟨⟨⟨⟨⟨⟨h1, h2⟩, h3⟩, h4⟩, h5⟩, h6⟩, h7⟩, h8⟩, h9⟩, h10⟩, h11⟩, h12⟩ := h
  refine ⟨h1, h2, h3, h4, h5, h6, h7, h8, h9, h10, fun p hp => ?_, h12⟩
  have := List.all_eq_true.mp h11 p hp
  obtain ⟨n, k⟩ := p
  cases k <;> first | exact .inl rfl | exact .inr (.inl rfl) | exact .inr (.inr rfl) | cases this

variable {C : Fix} {c : Cx} {σ σ' : AH} {g g' : Cfg} {h h' : Heap} {s s' : Shared} {own : Addr → Prop} {A : Around} {d : Nat} {nm : NM} {vm : VM} {env : Env} {ρ : List PV}
  {Q : Value → Shared → Prop} {E : Value → Shared → Prop}

structure FnOK (C : Fix) (f : Str) (F : Fn) : Prop where
  ex : ∃ a o params body scope pm code doc, C.mg f = some (.ref a) ∧ C.B.get? a = some o ∧ o.data = .func (docDef f params body scope pm code doc) ∧ C.B.CodeRec code f ∧ FnChk F params body scope

theorem vmOf_get {ns : List Str} {x : Str} {i : Nat} (h : (vmOf ns).lookup x = some i) : ns[i]? = some x := by
  have hm := lookup_mem_pair h
  unfold vmOf at hm
  obtain ⟨k, hk⟩ := List.getElem?_of_mem hm
  rw [List.getElem?_zip_eq_some] at hk
  obtain ⟨h1, h2⟩ := hk
  have h3 : k = i := by
    have hlt := (List.getElem?_eq_some_iff.mp h2).1
    have := (List.getElem?_eq_some_iff.mp h2).2
    simpa using this
  rw [← h3]; exact h1
theorem vmOf_nodup (ns : List Str) : ((vmOf ns).map (·.2)).Nodup := by
  unfold vmOf
  rw [show (fun (p : Str × Nat) => p.2) = Prod.snd from rfl, List.map_snd_zip (by simp)]
  exact List.nodup_range
theorem own_nodup {nm : NM} (h : (nm.map (·.1)).Nodup) : (ownNames nm).Nodup := by
  unfold ownNames
  exact h.sublist (List.Sublist.map _ List.filter_sublist)
theorem lookup_of_mem {α : Type} : ∀ {l : List (Str × α)} {x : Str} {a : α}, (l.map (·.1)).Nodup → (x, a) ∈ l → l.lookup x = some a
  | (n, b) :: r, x, a, hn, hm => by
    rw [List.map_cons, List.nodup_cons] at hn
    rw [List.lookup_cons]
    rcases List.mem_cons.mp hm with e | e
    · cases e; simp
    · have : (x == n) = false := by rw [beq_eq_false_iff_ne]; rintro rfl; exact hn.1 (List.mem_map.mpr ⟨_, e, rfl⟩)
      rw [this]; exact lookup_of_mem hn.2 e
theorem own_kind {nm : NM} (hn : (nm.map (·.1)).Nodup) {x : Str} (h : x ∈ ownNames nm) : isOwn (nm.lookup x) = true := by
  unfold ownNames at h
  obtain ⟨⟨n, k⟩, h1, rfl⟩ := List.mem_map.mp h
  obtain ⟨h2, h3⟩ := List.mem_filter.mp h1
  rw [lookup_of_mem hn h2]; exact h3

theorem bindL_get {kindOf : Str → Option NameKind} : ∀ (binds : List (Str × Value)) (m : Str → Option Value) (x : Str) (v : Value), (binds.map (·.1)).Nodup → binds.lookup x = some v → kindOf x = some .local → bindL kindOf binds m x = some v
  | (n, w) :: r, m, x, v, hn, hl, hk => by
    rw [List.map_cons, List.nodup_cons] at hn
    rw [List.lookup_cons] at hl
    unfold bindL
    cases hx : x == n with
    | true =>
      rw [hx] at hl; cases hl
      have : x = n := by simpa using hx
      subst this
      rw [if_pos hk]
      have key : ∀ (r : List (Str × Value)) (m : Str → Option Value), x ∉ r.map (·.1) → bindL kindOf r m x = m x := by
        intro r
        induction r with
        | nil => intro m _; rfl
        | cons p r ih =>
          intro m hp
          obtain ⟨n', w'⟩ := p
          rw [List.map_cons, List.mem_cons, not_or] at hp
          unfold bindL
          rw [ih _ hp.2]
          split
          · simp [hp.1]
          · rfl
      rw [key r _ hn.1]; simp
    | false => rw [hx] at hl; exact bindL_get r _ x v hn.2 hl hk
theorem bindC_get {kindOf : Str → Option NameKind} : ∀ (binds : List (Str × Value)) (m : Str → Option Value) (x : Str) (v : Value), (binds.map (·.1)).Nodup → binds.lookup x = some v → kindOf x ≠ some .local → bindC kindOf binds m x = some v
  | (n, w) :: r, m, x, v, hn, hl, hk => by
    rw [List.map_cons, List.nodup_cons] at hn
    rw [List.lookup_cons] at hl
    unfold bindC
    cases hx : x == n with
    | true =>
      rw [hx] at hl; cases hl
      have : x = n := by simpa using hx
      subst this
      rw [if_neg hk]
      have key : ∀ (r : List (Str × Value)) (m : Str → Option Value), x ∉ r.map (·.1) → bindC kindOf r m x = m x := by
        intro r
        induction r with
        | nil => intro m _; rfl
        | cons p r ih =>
          intro m hp
          obtain ⟨n', w'⟩ := p
          rw [List.map_cons, List.mem_cons, not_or] at hp
          unfold bindC
          rw [ih _ hp.2]
          split
          · rfl
          · simp [hp.1]
      rw [key r _ hn.1]; simp
    | false => rw [hx] at hl; exact bindC_get r _ x v hn.2 hl hk

/-- the frame at a function's start -/
theorem FR.start {F : Fn} {params : Arguments} {body : List Stmt} {scope : Scope} {f : Str} {pm code doc : Value} {a : Addr} {args : List PV} {vals : List Value} (ck : FnChk F params body scope) (hlen : args.length = F.nargs) (R : C.Rel σ g s.heap) (hv : C.VRs g s.heap args vals) {s1 : Shared}
    (X : InCallC s (callEnvC (docDef f params body scope pm code doc) s.heap.objs.size a).locals (bindL (callEnvC (docDef f params body scope pm code doc) s.heap.objs.size a).kindOf ((params.args.map (·.arg)).zip vals) fun _ => none) (callEnvC (docDef f params body scope pm code doc) s.heap.objs.size a).cells
        (bindC (callEnvC (docDef f params body scope pm code doc) s.heap.objs.size a).kindOf ((params.args.map (·.arg)).zip vals) fun _ => none) s1) :
    FR C scope.names (vmOf (ownNames scope.names)) (callEnvC (docDef f params body scope pm code doc) s.heap.objs.size a) (args ++ List.replicate (F.slots - F.nargs) .undef) g s1.heap := by
  have kept : Kept g s.heap s1.heap := .of_all X.toInCall.keep
  have hown := own_nodup ck.nodup
  have hpn : (params.args.map (·.arg)).Nodup := by rw [← ck.take]; exact hown.sublist (List.take_sublist ..)
  have hvl : vals.length = params.args.length := by rw [← hv.length, hlen, ck.len]
  have hzn : (((params.args.map (·.arg)).zip vals).map (·.1)).Nodup := by
    rw [show (fun (p : Str × Value) => p.1) = Prod.fst from rfl, List.map_fst_zip (by simp [hvl])]; exact hpn
  -- a bound slot is a parameter
  have par : ∀ x i v, (vmOf (ownNames scope.names)).lookup x = some i → (args ++ List.replicate (F.slots - F.nargs) .undef)[i]? = some v → v ≠ .undef → ∃ y, ((params.args.map (·.arg)).zip vals).lookup x = some y ∧ C.VR g s1.heap v y := by
    intro x i v h1 h2 h3
    have h4 := vmOf_get h1
    by_cases hi : i < args.length
    · rw [List.getElem?_append_left hi] at h2
      obtain ⟨y, h5, h6⟩ := hv.get h2
      have h7 : (params.args.map (·.arg))[i]? = some x := by rw [← ck.take, List.getElem?_take_of_lt (by lia)]; exact h4
      exact ⟨y, zip_lookup_some _ _ i x y hpn h7 h5, VR_kept (C := C) kept h6⟩
    · rw [List.getElem?_append_right (by lia)] at h2
      have := List.mem_of_getElem? h2
      exact absurd (List.eq_of_mem_replicate this) h3
  have fresh : ∀ b, s.heap.objs.size ≤ b → b ∉ g.μ ∧ ¬ g.Φ b := fun b hb => R.fresh (get?_le hb)
  refine ⟨ck.kind, rfl, rfl, rfl, fun x y i => lookup_inj (vmOf_nodup _), ⟨_, X.toInCall.ns, fun x i v h1 h2 h3 h4 => ?_⟩, fun x i h1 h2 => ?_, fresh _ X.toInCall.fresh, fun x cc hc => fresh cc ?_, fun x cc hc => ⟨_, X.cell x cc hc⟩, fun x y cc h1 h2 => ?_⟩
  · obtain ⟨y, h5, h6⟩ := par x i v h1 h3 h4
    exact ⟨y, bindL_get _ _ x y hzn h5 h2, h6⟩
  · have hk : scope.names.lookup x = some .cell := by
      cases hq : scope.names.lookup x with
      | none => rw [hq] at h2; cases h2
      | some k =>
        rw [hq] at h2
        rcases ck.kinds _ (lookup_mem_pair hq) with e | e | e <;> (simp only at e; subst e; first | rfl | cases h2)
    obtain ⟨cc, hc⟩ := Option.isSome_iff_exists.mp (PySem.W.cellsFrom_some (x := x) scope.names (s.heap.objs.size + 1) [] (.inl hk))
    refine ⟨cc, _, hc, X.cell x cc hc, fun v h3 h4 => ?_⟩
    obtain ⟨y, h5, h6⟩ := par x i v h1 h3 h4
    refine ⟨y, bindC_get _ _ x y hzn h5 ?_, h6⟩
    show scope.names.lookup x ≠ some .local
    rw [hk]; intro q; cases q
  · have := X.above x cc (mem_of_lookup hc)
    have h2 := X.toInCall.fresh
    exact Nat.le_of_lt (Nat.lt_of_le_of_lt h2 this)
  · exact name_of_addr X.apart (mem_of_lookup h1) (mem_of_lookup h2)
end Mine

set_option autoImplicit false
set_option backward.match.sparseCases true
set_option linter.unusedVariables false
namespace Mine
open PySem PyProof.Rows PySem.SeqAt PySem.Calls PySem.W

variable {C : Fix} {c : Cx} {σ σ' : AH} {g g' : Cfg} {h h' : Heap} {s s' : Shared} {own : Addr → Prop} {A : Around} {d : Nat} {nm : NM} {vm : VM} {env : Env} {ρ : List PV}
  {Q : Value → Shared → Prop} {E : Value → Shared → Prop}

theorem AOK.call (hA : AOK A (d + 1)) (hg : env.scope.isGenerator = false) (hc : env.scope.isCoroutine = false) (hb : env.builtins = builtinsNs) (hm : env.globals = mainGlobals) : AOK (A.deeper env) d := by
  refine ⟨hA.hand, ?_, ?_, ?_⟩
  · have := hA.depth
    show A.depth + 1 + d < 890
    lia
  · have := hA.units
    show A.units + 3 + 12 * d + 700 < cLine
    lia
  · obtain ⟨e0, l, h1, _⟩ := hA.fr
    exact ⟨env, e0 :: l, by show A.frames.map (env :: ·) = _; rw [h1]; rfl, hg, hc, hb, hm⟩

theorem fn_call' (K : C.OK) (X : CxOK C c d) {f : Str} {F : Fn} (hF : FnOK C f F) {a : Addr} {args : List PV} {xs : List Value} (ha : C.mg f = some (.ref a)) (hdep : A.depth < 1000)
    (hA : ∀ env : Env, env.scope.isGenerator = false → env.scope.isCoroutine = false → env.builtins = builtinsNs → env.globals = mainGlobals → AOK (A.deeper env) d) (R : C.Rel σ g s.heap) (hv : C.VRs g s.heap args xs)
    (hp : PostE C noOwn g s (runFn c F args σ) Q E) : wpAny (model C.prog C.w) A (call (.ref a) xs) Q E s := by
  obtain ⟨a', o, params, body, scope, pm, code, doc, h1, h2, h3, h4, ck⟩ := hF.ex
  rw [ha] at h1; cases h1
  unfold runFn at hp
  split at hp
  · rename_i hlen
    have hvl : xs.length = params.args.length := by rw [← hv.length, hlen, ck.len]
    have hown := own_nodup ck.nodup
    have hpn : (params.args.map (·.arg)).Nodup := by rw [← ck.take]; exact hown.sublist (List.take_sublist ..)
    refine wpAny_call (codeAny_call_cells (fd := docDef f params body scope pm code doc) (binds := (params.args.map (·.arg)).zip xs) ?_ (R.rel.base _ _ h2) h3 (K.nolimit.keeps R.rel.base) (h4.keeps R.rel.base) rfl (bind_plain ck.p1 ck.p2 ck.p3 ck.p4 hpn hvl) rfl ?_ ?_ ck.cor ck.gen ck.kind)
    · exact hdep
    · intro y hy
      have hm : y.1 ∈ ownNames scope.names := by
        have h5 : y.1 ∈ params.args.map (·.arg) := (List.of_mem_zip (show (y.1, y.2) ∈ _ from hy)).1
        rw [← ck.take] at h5; exact List.mem_of_mem_take h5
      have hk := own_kind ck.nodup hm
      cases hq : scope.names.lookup y.1 with
      | none => rw [hq] at hk; cases hk
      | some k =>
        rw [hq] at hk
        cases k <;> first | cases hk | skip
        · exact .inl hq
        · exact .inr ⟨hq, PySem.W.cellsFrom_some scope.names _ [] (.inl hq)⟩
    · intro s1 IC
      have F1 := FR.start ck hlen R hv IC
      have k1 := IC.toInCall.keep
      obtain ⟨hh, tk, hs1⟩ := IC.toInCall.same
      have e1 : Ext noOwn g s g s1 := by rw [hs1]; rw [hs1] at k1; exact Ext.all k1
      have R1 : C.Rel σ g s1.heap := R.kept (.of_all k1)
      have hA1 : AOK (A.deeper (callEnvC (docDef f params body scope pm code doc) s.heap.objs.size a)) d := hA _ ck.gen ck.cor rfl rfl
      have hnone : ∀ b, ownOf (callEnvC (docDef f params body scope pm code doc) s.heap.objs.size a) b → s.heap.get? b = none := fun b hb => by
        rcases hb with rfl | ⟨x, hx⟩
        · exact get?_le IC.toInCall.fresh
        · exact get?_le (Nat.le_of_lt (Nat.lt_of_le_of_lt IC.toInCall.fresh (IC.above x b (mem_of_lookup hx))))
      cases hr : execs c F.body (args ++ List.replicate (F.slots - F.nargs) .undef) σ with
      | exc => rw [hr] at hp; exact hp.elim
      | bad => rw [hr] at hp; exact hp.elim
      | ok r σ' =>
        rw [hr] at hp
        simp only [Res.bind] at hp
        obtain ⟨fl, ρ'⟩ := r
        refine sndSs K X F.body scope.names _ body _ _ σ g s1 _ _ _ ck.chk F1 R1 hA1 (PostX.mk hr fun g2 s2 fw e2 R2 F2 hf => ?_)
        have e3 : Ext noOwn g s g2 s2 := Ext.drop e1 e2 hnone
        have fin : ∀ x, C.VR g2 s2.heap fl.out x → Q x s2 := by
          intro x hvx
          split at hp
          · exact hp g2 s2 x e3 R2 hvx
          · split at hp
            · rename_i ht
              cases hz : frz σ.length σ' 3 fl.out with
              | none => rw [hz] at hp; exact hp.elim
              | some v' =>
                rw [hz] at hp
                exact hp (g2.cool σ.length) s2 x (cool_ext R R2 e3) (cool_rel R R2 e3 ht) (frz_sound R2 3 hz hvx)
            · exact hp.elim
        cases fl with
        | ret v => obtain ⟨x, rfl, q⟩ := hf; exact fin x q
        | next => cases hf; exact fin .none .none
        | brk => cases hf; exact fin .none .none
        | cont => cases hf; exact fin .none .none
  · exact hp.elim

theorem fn_call (K : C.OK) (X : CxOK C c d) {f : Str} {F : Fn} (hF : FnOK C f F) {a : Addr} {args : List PV} {xs : List Value} (ha : C.mg f = some (.ref a)) (hA : AOK A (d + 1)) (R : C.Rel σ g s.heap) (hv : C.VRs g s.heap args xs)
    (hp : PostE C noOwn g s (runFn c F args σ) Q E) : wpAny (model C.prog C.w) A (call (.ref a) xs) Q E s :=
  fn_call' K X hF ha (by have := hA.depth; lia) (fun env h1 h2 h3 h4 => hA.call h1 h2 h3 h4) R hv hp

theorem callD_ok (K : C.OK) {G : Glob} (hgl : ∀ x v, G.const x = some v → ∃ y, C.mg x = some y ∧ C.VR C.g0 C.B v y) (hfn : ∀ f F, G.fn f = some F → FnOK C f F) (hbi : ∀ w ∈ biWords, C.mg w = none) : ∀ d, CxOK C ⟨G.const, callD G d⟩ d
  | 0 => ⟨hgl, fun f args σ h => absurd rfl h, fun f a args xs σ g s A Q E _ _ _ _ hp => hp.elim, hbi⟩
  | d + 1 => by
    have ih := callD_ok K hgl hfn hbi d
    refine ⟨hgl, fun f args σ hb => ?_, fun f a args xs σ g s A Q E ha hA R hv hp => ?_, hbi⟩
    · simp only [callD] at hb
      cases hF : G.fn f with
      | none => rw [hF] at hb; exact absurd rfl hb
      | some F =>
        obtain ⟨a', o, params, body, scope, pm, code, doc, h1, h2, h3, h4, ck⟩ := (hfn f F hF).ex
        exact ⟨a', o, _, h1, h2, h3⟩
    · simp only [callD] at hp
      cases hF : G.fn f with
      | none => rw [hF] at hp; exact hp.elim
      | some F =>
        rw [hF] at hp
        exact fn_call K ih (hfn f F hF) ha hA R hv hp

/-! ## the head -/
theorem base_rel {B : Heap} (hB : C.B = B) (K : C.OK) : C.Rel [] C.g0 B := by
  subst hB
  refine ⟨{ len := rfl, nodup := List.nodup_nil, disj := fun a ha => (nomatch ha), lkμ := fun a ha => ha.elim, live := fun a ha => ha, base := fun b o e => e, baseμ := fun a ha => (nomatch ha), objs := fun i o a h1 _ => by simp at h1 }, fun b hb => hb, ?_⟩
  obtain ⟨mm, h1, _⟩ := K.seer.mods
  obtain ⟨o, ho⟩ := Heap.Ns.live h1
  exact isSome_of ho

theorem well_ints {p : Params} {B : Heap} {x : Value} {ns : List Int} (h : Well p B x (ofPy (.list (ns.map .int)))) (hB : C.B = B) : C.VR C.g0 C.B (.lst (ns.map .int)) x := by
  subst hB
  have e : ofPy (.list (ns.map .int)) = .list (ns.map .int) := by
    have key : ∀ ns : List Int, ofPys (ns.map PyData.int) = ns.map WData.int := by
      intro ns
      induction ns with
      | nil => rfl
      | cons n ns ih => simp only [List.map_cons, ofPys, ofPy, ih]
    simp only [ofPy, key]
  rw [e] at h
  cases h with
  | @list a vs xs h1 h2 =>
    refine .lst (isSome_of h1) ⟨0, h1⟩ ?_
    have key : ∀ (ns : List Int) (vs : List Value), WellAll p C.B vs (ns.map WData.int) → C.VRs C.g0 C.B (ns.map PV.int) vs := by
      intro ns
      induction ns with
      | nil => intro vs h; cases h; exact .nil
      | cons n ns ih =>
        intro vs h
        cases h with
        | cons a b => cases a; exact .cons (.int ..) (ih _ b)
    simpa using key ns vs h2

theorem law_head {B : Heap} (hB : C.B = B) (K : C.OK) {G : Glob} {F : Fn} {f : Str} {D : Nat} (hD : D ≤ 500) (hgl : ∀ x v, G.const x = some v → ∃ y, C.mg x = some y ∧ C.VR C.g0 C.B v y) (hfn : ∀ f F, G.fn f = some F → FnOK C f F) (hbi : ∀ w ∈ biWords, C.mg w = none)
    {a : Addr} (ha : C.mg f = some (.ref a)) (hF : G.fn f = some F) {p : Params} {x : Value} {ns : List Int} (hs : s.heap = B) (hw : Well p B x (ofPy (.list (ns.map .int))))
    (hrun : callD G (D + 1) f [.lst (ns.map .int)] [] = .ok (.bool true) [])
    (hQ : ∀ s', (∀ b o, B.get? b = some o → s'.heap.get? b = some o) → s'.os = s.os → s'.gens = s.gens → Q (.bool true) s') : wpAny (model C.prog C.w) callerA (call (.ref a) [x]) Q E s := by
  have R : C.Rel [] C.g0 s.heap := by rw [hs]; exact base_rel hB K
  have hv : C.VRs C.g0 s.heap [.lst (ns.map .int)] [x] := by
    have := well_ints hw hB
    rw [hB] at this
    rw [hs]; exact .cons this .nil
  have hr : runFn ⟨G.const, callD G D⟩ F [.lst (ns.map .int)] [] = .ok (.bool true) [] := by
    rw [callD, hF] at hrun; exact hrun
  refine fn_call' K (callD_ok K hgl hfn hbi D) (hfn f F hF) ha (by decide) (fun env h1 h2 h3 h4 => ⟨rfl, ?_, ?_, env, [], rfl, h1, h2, h3, h4⟩) R hv (PostE.mk hr fun g' s' y e1 R1 v1 => ?_)
  · show 1 + claimMargin + 1 + D < 890
    have : claimMargin = 300 := rfl
    lia
  · show 4 + 3 + 12 * D + 700 < cLine
    have : cLine = 9900 := rfl
    lia
  · cases v1
    refine hQ s' (fun b o e => R1.rel.base b o (by rw [hB]; exact e)) e1.os e1.gens

noncomputable def tblChk (rs : List DefRec) (tbl : List (Str × Fn)) : Bool := tbl.all fun p => rs.any fun d => d.name == p.1 && fnChk p.2 d.params d.body d.scope
noncomputable def biChk (view : Program) (loose : List Str) : Bool := biWords.all fun w => !startupNames.contains w && !loose.contains w && !((recsOf view).map (·.name)).contains w && !((litsOf view).map (·.1)).contains w && !((clssOf view loose).map (·.name)).contains w

section
variable {prog : Program} {w : World} {view : Program} {loose : List Str} {mean : ExcName → Option Value} {mg mb : Str → Option Value} {B : Heap}
theorem ok_of_top (T : Top view loose mean mg mb B) (ht : prog.given.tree = none) (hi : importsNone view = true) : (Fix.mk prog w B mg mb).OK :=
  ⟨T.g, T.b, T.nolimit, T.nodigits, T.builtins, T.seer hi, ht⟩
theorem fns_of_top (T : Top view loose mean mg mb B) {tbl : List (Str × Fn)} (hc : tblChk (recsOf view) tbl = true) : ∀ f F, tbl.lookup f = some F → FnOK (Fix.mk prog w B mg mb) f F := fun f F hf => by
  have h1 := List.all_eq_true.mp hc _ (lookup_mem_pair hf)
  obtain ⟨d, hd, h2⟩ := List.any_eq_true.mp h1
  obtain ⟨h3, h4⟩ := and2 h2
  have h3 : d.name = f := by simpa using h3
  obtain ⟨a, o, pm, code, doc, q1, q2, q3, q4⟩ := T.fn d hd
  rw [h3] at q1 q3 q4
  exact ⟨a, o, d.params, d.body, d.scope, pm, code, doc, q1, q2, q3, q4, fnChk_of h4⟩
theorem bi_of_top (T : Top view loose mean mg mb B) (hc : biChk view loose = true) : ∀ x ∈ biWords, mg x = none := fun x hx => by
  have h1 := List.all_eq_true.mp hc x hx
  simp only [Bool.and_eq_true, Bool.not_eq_true'] at h1
  obtain ⟨⟨⟨⟨h1, h2⟩, h3⟩, h4⟩, h5⟩ := h1
  have nc : ∀ {l : List Str}, l.contains x = false → x ∉ l := fun h q => by rw [List.contains_iff_mem.mpr q] at h; cases h
  exact T.free x (nc h1) (nc h2) (nc h3) (nc h4) (nc h5)
end

theorem post_true (l : OpenLaw) (args ds : List WData) : l.row.claim.post args (.bool true) ds = true := by
  show (WShape.has [] (.bool true) .bool && WTm.holds [] (.eq .res (.lit (.bool true))) _) = true
  have h1 : WShape.has [] (.bool true) .bool = true := by first | rfl | decide +kernel
  rw [h1, Bool.true_and]
  unfold WTm.holds
  rw [WTm.value]
  simp only [WTm.value]
  first | rfl | decide +kernel | simp [same]
end Mine

set_option autoImplicit false
set_option maxRecDepth 100000
set_option linter.unusedSimpArgs false
set_option linter.unusedVariables false
set_option exponentiation.threshold 2000
namespace Mine
open PySem
noncomputable def F_measure_of_dict : Fn := ⟨1, 2,
  (.cons (.ret 0 (.bi .tuple (.cons (.comp (.tup (.cons (.loc 1) (.cons (.idx (.loc 0) (.loc 1)) .nil))) (.one 1) (.bi .sorted (.cons (.loc 0) .nil)) (.cmp .NotEq (.idx (.loc 0) (.loc 1)) (.const (.int 0)))) .nil)))
  .nil), false⟩
noncomputable def F_put_to : Fn := ⟨3, 5,
  (.cons (.forS (.many [3, 4]) (.loc 1)
    (.cons (.setitem (.loc 0) (.loc 3) 0 (.bin .Add (.meth (.loc 0) .get (.cons (.loc 3) (.cons (.const (.int 0)) .nil))) (.bin .Mult (.loc 4) (.loc 2))))
    .nil) [3, 4])
  .nil), true⟩
noncomputable def F_filled : Fn := ⟨2, 5,
  (.cons (.assign 2 1 .edict)
  (.cons (.forS (.many [3, 4]) (.loc 0)
    (.cons (.expr (.call "put_to" (.cons (.loc 2) (.cons (.meth (.loc 1) .get (.cons (.loc 3) (.cons (.tup (.cons (.tup (.cons (.loc 3) (.cons (.const (.int 1)) .nil))) .nil)) .nil))) (.cons (.loc 4) .nil)))))
    .nil) [3, 4])
  (.cons (.ret 0 (.call "measure_of_dict" (.cons (.loc 2) .nil)))
  .nil))), false⟩
noncomputable def F_law_cell_at : Fn := ⟨2, 2,
  (.cons (.ite (.cmp .Lt (.loc 1) (.bi .len (.cons (.loc 0) .nil)))
    (.cons (.ret 0 (.bin .Mod (.idx (.loc 0) (.loc 1)) (.const (.int 1000000000000000003))))
    .nil)
    .nil)
  (.cons (.ret 0 (.const (.int 0)))
  .nil)), false⟩
noncomputable def F_law_mix : Fn := ⟨2, 3,
  (.cons (.assign 2 0 (.bin .Mod (.bin .Add (.bin .Add (.bin .Mult (.loc 0) (.const (.int 48271))) (.bin .Mult (.loc 1) (.const (.int 69621)))) (.const (.int 11))) (.const (.int 2147483647))))
  (.cons (.ret 0 (.bin .Mod (.bin .Add (.bin .Add (.bin .Mult (.loc 2) (.loc 2)) (.bin .Mult (.const (.int 7)) (.loc 2))) (.loc 1)) (.const (.int 2147483629))))
  .nil)), false⟩
noncomputable def F_law_words : Fn := ⟨2, 11,
  (.cons (.assign 2 0 (.const (.str "abcdefghijklmnopqrstuvwxyz")))
  (.cons (.assign 3 0 (.bin .Add (.const (.int 1)) (.bin .Mod (.loc 0) (.const (.int 8)))))
  (.cons (.assign 4 0 (.bin .Mod (.bin .FloorDiv (.loc 0) (.const (.int 8))) (.loc 3)))
  (.cons (.assign 5 0 (.idx (.loc 2) (.bin .Mod (.bin .FloorDiv (.loc 0) (.const (.int 64))) (.const (.int 26)))))
  (.cons (.assign 6 0 (.bin .Mod (.bin .FloorDiv (.loc 0) (.const (.int 3))) (.const (.int 4))))
  (.cons (.assign 7 1 (.lst .nil))
  (.cons (.forS (.one 8) (.bi .range (.cons (.loc 1) .nil))
    (.cons (.assign 9 0 (.idx (.loc 2) (.bin .Mod (.bin .Add (.bin .FloorDiv (.loc 0) (.const (.int 1664))) (.bin .Mult (.const (.int 5)) (.loc 8))) (.const (.int 26)))))
    (.cons (.assign 10 0 (.bin .Add (.bin .Add (.bin .Mult (.loc 5) (.loc 4)) (.loc 9)) (.bin .Mult (.loc 5) (.bin .Sub (.bin .Sub (.loc 3) (.const (.int 1))) (.loc 4)))))
    (.cons (.ite (.cmp .Eq (.loc 6) (.const (.int 0)))
      (.cons (.assign 10 0 (.bin .Add (.loc 9) (.bin .Mult (.loc 5) (.bin .Mod (.bin .Add (.bin .Mult (.const (.int 3)) (.loc 8)) (.bin .FloorDiv (.loc 0) (.const (.int 9)))) (.const (.int 8))))))
      .nil)
      .nil)
    (.cons (.ite (.andE (.cons (.cmp .Eq (.loc 6) (.const (.int 1))) (.cons (.cmp .Lt (.loc 8) (.const (.int 8))) .nil)))
      (.cons (.assign 10 0 (.bin .Mult (.loc 5) (.bin .Add (.const (.int 1)) (.bin .Mod (.bin .Add (.bin .Mult (.const (.int 3)) (.loc 8)) (.bin .FloorDiv (.loc 0) (.const (.int 9)))) (.const (.int 8))))))
      .nil)
      .nil)
    (.cons (.ite (.andE (.cons (.cmp .Eq (.loc 6) (.const (.int 1))) (.cons (.cmp .Gt (.loc 8) (.const (.int 7))) .nil)))
      (.cons (.assign 10 0 (.bin .Add (.idx (.loc 2) (.bin .Mod (.bin .Sub (.bin .Add (.bin .FloorDiv (.loc 0) (.const (.int 64))) (.loc 8)) (.const (.int 7))) (.const (.int 26)))) (.bin .Mult (.loc 5) (.bin .Mod (.loc 8) (.const (.int 8))))))
      .nil)
      .nil)
    (.cons (.expr (.meth (.loc 7) .append (.cons (.loc 10) .nil)))
    .nil)))))) [8, 9, 10])
  (.cons (.ret 0 (.loc 7))
  .nil)))))))), false⟩
noncomputable def F_law_made : Fn := ⟨1, 2,
  (.cons (.ret 0 (.bi .tuple (.cons (.comp (.tup (.cons (.loc 1) (.cons (.idx (.loc 0) (.loc 1)) .nil))) (.one 1) (.bi .sorted (.cons (.loc 0) .nil)) (.cmp .NotEq (.idx (.loc 0) (.loc 1)) (.const (.int 0)))) .nil)))
  .nil), false⟩
noncomputable def F_law_whole : Fn := ⟨1, 1,
  (.cons (.ret 0 (.andE (.cons (.bi (.isinst .int) (.cons (.loc 0) .nil)) (.cons (.notE (.bi (.isinst .bool) (.cons (.loc 0) .nil))) .nil))))
  .nil), false⟩
noncomputable def F_law_is_measure : Fn := ⟨1, 3,
  (.cons (.ite (.notE (.bi (.isinst .tuple) (.cons (.loc 0) .nil)))
    (.cons (.ret 0 (.const (.bool false)))
    .nil)
    .nil)
  (.cons (.assign 1 0 (.const (.str "")))
  (.cons (.forS (.one 2) (.loc 0)
    (.cons (.ite (.orE (.cons (.notE (.bi (.isinst .tuple) (.cons (.loc 2) .nil))) (.cons (.cmp .NotEq (.bi .len (.cons (.loc 2) .nil)) (.const (.int 2))) (.cons (.notE (.bi (.isinst .str) (.cons (.idx (.loc 2) (.const (.int 0))) .nil))) (.cons (.notE (.call "_law_whole" (.cons (.idx (.loc 2) (.const (.int 1))) .nil))) .nil)))))
      (.cons (.ret 0 (.const (.bool false)))
      .nil)
      .nil)
    (.cons (.ite (.orE (.cons (.cmp .LtE (.idx (.loc 2) (.const (.int 0))) (.loc 1)) (.cons (.cmp .Eq (.idx (.loc 2) (.const (.int 1))) (.const (.int 0))) .nil)))
      (.cons (.ret 0 (.const (.bool false)))
      .nil)
      .nil)
    (.cons (.assign 1 0 (.idx (.loc 2) (.const (.int 0))))
    .nil))) [2])
  (.cons (.ret 0 (.const (.bool true)))
  .nil)))), false⟩
noncomputable def F_law_letters : Fn := ⟨2, 6,
  (.cons (.assign 2 0 (.call "_law_words" (.cons (.loc 0) (.cons (.const (.int 26)) .nil))))
  (.cons (.assign 3 1 (.lst .nil))
  (.cons (.forS (.one 4) (.bi .range (.cons (.loc 1) .nil))
    (.cons (.expr (.meth (.loc 3) .append (.cons (.bin .Add (.idx (.lst (.cons (.const (.str "")) (.cons (.const (.str "=")) .nil))) (.bin .Mod (.loc 4) (.const (.int 2)))) (.idx (.loc 2) (.bin .Mod (.loc 4) (.const (.int 26))))) .nil)))
    (.cons (.assign 5 0 (.idx (.lst (.cons (.loc 4) (.cons (.bin .Add (.bin .Mult (.loc 4) (.bin .Pow (.const (.int 10)) (.const (.int 9)))) (.bin .Mod (.loc 0) (.bin .Pow (.const (.int 10)) (.const (.int 9))))) .nil))) (.bin .Mod (.loc 0) (.const (.int 2)))))
    (.cons (.expr (.meth (.loc 3) .append (.cons (.bin .Add (.idx (.lst (.cons (.const (.str "0")) (.cons (.const (.str "?")) .nil))) (.bin .Mod (.loc 4) (.const (.int 2)))) (.bi .str (.cons (.loc 5) .nil))) .nil)))
    .nil))) [4, 5])
  (.cons (.ret 0 (.loc 3))
  .nil)))), false⟩
noncomputable def F_law_power : Fn := ⟨1, 1,
  (.cons (.ite (.cmp .Gt (.bin .Mod (.loc 0) (.const (.int 5))) (.const (.int 0)))
    (.cons (.ret 0 (.bin .Sub (.bin .Mod (.bin .FloorDiv (.loc 0) (.const (.int 5))) (.const (.int 9))) (.const (.int 4))))
    .nil)
    .nil)
  (.cons (.ret 0 (.bin .Sub (.bin .Mod (.bin .Pow (.bin .FloorDiv (.loc 0) (.const (.int 5))) (.const (.int 3))) (.bin .Add (.bin .Mult (.const (.int 2)) (.bin .Pow (.const (.int 10)) (.const (.int 20)))) (.const (.int 1)))) (.bin .Pow (.const (.int 10)) (.const (.int 20)))))
  .nil)), false⟩
noncomputable def F_law_measure : Fn := ⟨2, 6,
  (.cons (.assign 2 1 .edict)
  (.cons (.forS (.one 3) (.bi .range (.cons (.idx (.lst (.cons (.bin .Mod (.loc 0) (.const (.int 5))) (.cons (.bin .Mod (.loc 0) (.const (.int 60))) .nil))) (.bin .FloorDiv (.bin .Mod (.bin .FloorDiv (.loc 0) (.const (.int 60))) (.const (.int 8))) (.const (.int 7)))) .nil))
    (.cons (.assign 4 0 (.call "_law_mix" (.cons (.loc 0) (.cons (.loc 3) .nil))))
    (.cons (.assign 5 0 (.idx (.loc 1) (.bin .Mod (.loc 4) (.bi .len (.cons (.loc 1) .nil)))))
    (.cons (.setitem (.loc 2) (.loc 5) 0 (.call "_law_power" (.cons (.bin .FloorDiv (.loc 4) (.bi .len (.cons (.loc 1) .nil))) .nil)))
    .nil))) [3, 4, 5])
  (.cons (.ret 0 (.call "_law_made" (.cons (.loc 2) .nil)))
  .nil))), false⟩
noncomputable def F_law_filled : Fn := ⟨2, 7,
  (.cons (.assign 2 1 .edict)
  (.cons (.forS (.many [3, 4]) (.loc 0)
    (.cons (.forS (.many [5, 6]) (.meth (.loc 1) .get (.cons (.loc 3) (.cons (.tup (.cons (.tup (.cons (.loc 3) (.cons (.const (.int 1)) .nil))) .nil)) .nil)))
      (.cons (.setitem (.loc 2) (.loc 5) 0 (.bin .Add (.meth (.loc 2) .get (.cons (.loc 5) (.cons (.const (.int 0)) .nil))) (.bin .Mult (.loc 6) (.loc 4))))
      .nil) [5, 6])
    .nil) [3, 4, 5, 6])
  (.cons (.ret 0 (.call "_law_made" (.cons (.loc 2) .nil)))
  .nil))), false⟩
noncomputable def F_law : Fn := ⟨1, 9,
  (.cons (.assign 1 0 (.call "_law_letters" (.cons (.call "_law_cell_at" (.cons (.loc 0) (.cons (.const (.int 0)) .nil))) (.cons (.bin .Add (.const (.int 1)) (.bin .Mod (.call "_law_cell_at" (.cons (.loc 0) (.cons (.const (.int 1)) .nil))) (.const (.int 40)))) .nil))))
  (.cons (.assign 2 0 (.call "_law_measure" (.cons (.call "_law_cell_at" (.cons (.loc 0) (.cons (.const (.int 2)) .nil))) (.cons (.loc 1) .nil))))
  (.cons (.assign 3 1 .edict)
  (.cons (.forS (.one 4) (.bi .range (.cons (.bin .Mod (.call "_law_cell_at" (.cons (.loc 0) (.cons (.const (.int 3)) .nil))) (.const (.int 9))) .nil))
    (.cons (.assign 5 0 (.call "_law_cell_at" (.cons (.loc 0) (.cons (.bin .Add (.const (.int 4)) (.loc 4)) .nil))))
    (.cons (.assign 6 0 (.idx (.loc 1) (.bin .Mod (.loc 5) (.bi .len (.cons (.loc 1) .nil)))))
    (.cons (.ite (.andE (.cons (.cmp .Eq (.bin .Mod (.bin .FloorDiv (.loc 5) (.const (.int 97))) (.const (.int 3))) (.const (.int 0))) (.cons (.cmp .Gt (.bi .len (.cons (.loc 2) .nil)) (.const (.int 0))) .nil)))
      (.cons (.assign 6 0 (.idx (.idx (.loc 2) (.bin .Mod (.loc 5) (.bi .len (.cons (.loc 2) .nil)))) (.const (.int 0))))
      .nil)
      .nil)
    (.cons (.setitem (.loc 3) (.loc 6) 0 (.call "_law_measure" (.cons (.call "_law_mix" (.cons (.loc 5) (.cons (.loc 4) .nil))) (.cons (.loc 1) .nil))))
    .nil)))) [4, 5, 6])
  (.cons (.assign 7 0 (.bi .dict (.cons (.loc 3) .nil)))
  (.cons (.assign 8 0 (.call "filled" (.cons (.loc 2) (.cons (.loc 7) .nil))))
  (.cons (.ite (.orE (.cons (.notE (.call "_law_is_measure" (.cons (.loc 8) .nil))) (.cons (.cmp .NotEq (.loc 8) (.call "_law_filled" (.cons (.loc 2) (.cons (.loc 3) .nil)))) (.cons (.cmp .NotEq (.loc 7) (.loc 3)) .nil))))
    (.cons (.ret 0 (.const (.bool false)))
    .nil)
    .nil)
  (.cons (.ret 0 (.andE (.cons (.cmp .Eq (.call "filled" (.cons (.loc 2) (.cons .edict .nil))) (.loc 2)) (.cons (.cmp .Eq (.call "filled" (.cons (.tup .nil) (.cons (.loc 7) .nil))) (.tup .nil)) .nil))))
  .nil)))))))), false⟩
noncomputable def tbl : List (Str × Fn) := [("measure_of_dict", F_measure_of_dict), ("put_to", F_put_to), ("filled", F_filled), ("_law_cell_at", F_law_cell_at), ("_law_mix", F_law_mix), ("_law_words", F_law_words), ("_law_made", F_law_made), ("_law_whole", F_law_whole), ("_law_is_measure", F_law_is_measure), ("_law_letters", F_law_letters), ("_law_power", F_law_power), ("_law_measure", F_law_measure), ("_law_filled", F_law_filled), ("law", F_law)]

noncomputable def G : Glob := ⟨fun _ => none, fun f => tbl.lookup f⟩
theorem fn_cell_at : G.fn "_law_cell_at" = some F_law_cell_at := by rfl
theorem fn_law : G.fn "law" = some F_law := by rfl
theorem fn_mix : G.fn "_law_mix" = some F_law_mix := by rfl
noncomputable def cellAt (ns : List Int) (k : Nat) : Int := if k < ns.length then (ns.getD k 0).fmod 1000000000000000003 else 0
theorem frz_int (n : Nat) (σ : AH) (i : Int) : frz n σ 3 (.int i) = some (.int i) := rfl
theorem frz_bool (n : Nat) (σ : AH) (i : Bool) : frz n σ 3 (.bool i) = some (.bool i) := rfl
theorem cell_at {ns : List Int} (h : ns.length ≤ 63) (k : Nat) (hk : k ≤ 1000) (d : Nat) (σ : AH) : callD G (d + 1) "_law_cell_at" [.lst (ns.map .int), .int k] σ = .ok (.int (cellAt ns k)) σ := by
  have h1 : (List.map PV.int ns).length ≤ 1000000 := by simp; omega
  simp only [callD, runFn, List.length_cons, List.length_nil, Nat.reduceAdd, Nat.reduceSub, if_true, Nat.sub_self, Nat.sub_zero, List.replicate_zero, List.replicate_succ, List.replicate, List.append_nil, List.nil_append, List.cons_append, e_const, e_loc, e_and, e_or, e_bin, e_not, e_neg, e_cmp, e_tup, e_lst, e_edict, e_idx, e_comp, e_call, e_bi, e_meth, e_nil, e_cons, e_and1, e_and2, e_or1, e_or2, x_assign, x_setitem, x_expr, x_ret, x_ite, x_for, x_nil, x_cons, Bool.false_eq_true, if_false, items_tup, items_lst, items_rng, items_dct, lkV_tup, lkV_lst, lkV_rng, lkV_dct, lockV_tup, lockV_lst, lockV_rng, lockV_dct, unlk_ok, box_0, box_1, val_list, val_dict, obj_list, obj_dict, Nat.pred_zero, Nat.pred_succ, Nat.pred, Option.map_some, Bool.not_true, Bool.not_false, List.take_left, List.take_length, bind_ok, k_bin1, k_bin2, k_not, k_neg, k_cmp1, k_cmp2, k_tup, k_lst, k_idx1, k_idx2, k_comp1, k_compI, k_comp2, k_call, k_bi, k_meth1, k_methI, k_meth2, k_meth3, k_cons1, k_cons2, k_and, k_and_t, k_and_f, k_or, k_or_t, k_or_f, k_assign, k_set1, k_set2, k_set3, k_set4, k_expr, k_ret, k_if, k_if_t, k_if_f, k_for, k_forI, k_seq, k_seq_n, k_seq_r, List.getElem?_cons_zero, List.getElem?_cons_succ, List.set_cons_zero, List.set_cons_succ, fin_v, fin_f0, fin_f1, okB_some, truth_bool, constP_int, constP_str, constP_bool, constP_none, add_ii, sub_ii, lt_ii, gt_ii, le_ii, eq_ii, ne_ii, eq_ss, kill, List.foldl_cons, List.foldl_nil, setAll, bindT, tgtSlots, Flw.out, fn_cell_at, F_law_cell_at, len_lst _ _ h1]
  unfold cellAt
  by_cases hc : k < ns.length
  · have hc' : decide ((k : Int) < ((List.map PV.int ns).length : Int)) = true := by simp; omega
    have hg : (List.map PV.int ns)[k]? = some (.int (ns.getD k 0)) := by simp [hc, List.getD]
    simp only [callD, runFn, List.length_cons, List.length_nil, Nat.reduceAdd, Nat.reduceSub, if_true, Nat.sub_self, Nat.sub_zero, List.replicate_zero, List.replicate_succ, List.replicate, List.append_nil, List.nil_append, List.cons_append, e_const, e_loc, e_and, e_or, e_bin, e_not, e_neg, e_cmp, e_tup, e_lst, e_edict, e_idx, e_comp, e_call, e_bi, e_meth, e_nil, e_cons, e_and1, e_and2, e_or1, e_or2, x_assign, x_setitem, x_expr, x_ret, x_ite, x_for, x_nil, x_cons, Bool.false_eq_true, if_false, items_tup, items_lst, items_rng, items_dct, lkV_tup, lkV_lst, lkV_rng, lkV_dct, lockV_tup, lockV_lst, lockV_rng, lockV_dct, unlk_ok, box_0, box_1, val_list, val_dict, obj_list, obj_dict, Nat.pred_zero, Nat.pred_succ, Nat.pred, Option.map_some, Bool.not_true, Bool.not_false, List.take_left, List.take_length, bind_ok, k_bin1, k_bin2, k_not, k_neg, k_cmp1, k_cmp2, k_tup, k_lst, k_idx1, k_idx2, k_comp1, k_compI, k_comp2, k_call, k_bi, k_meth1, k_methI, k_meth2, k_meth3, k_cons1, k_cons2, k_and, k_and_t, k_and_f, k_or, k_or_t, k_or_f, k_assign, k_set1, k_set2, k_set3, k_set4, k_expr, k_ret, k_if, k_if_t, k_if_f, k_for, k_forI, k_seq, k_seq_n, k_seq_r, List.getElem?_cons_zero, List.getElem?_cons_succ, List.set_cons_zero, List.set_cons_succ, fin_v, fin_f0, fin_f1, okB_some, truth_bool, constP_int, constP_str, constP_bool, constP_none, add_ii, sub_ii, lt_ii, gt_ii, le_ii, eq_ii, ne_ii, eq_ss, kill, List.foldl_cons, List.foldl_nil, setAll, bindT, tgtSlots, Flw.out, hc', idx_lst σ _ k _ (by omega) hg, mod_ii _ _ _ (show (1000000000000000003 : Int) ≠ 0 by decide), frz_int, hc]
  · have hc' : decide ((k : Int) < ((List.map PV.int ns).length : Int)) = false := by simp; omega
    simp only [callD, runFn, List.length_cons, List.length_nil, Nat.reduceAdd, Nat.reduceSub, if_true, Nat.sub_self, Nat.sub_zero, List.replicate_zero, List.replicate_succ, List.replicate, List.append_nil, List.nil_append, List.cons_append, e_const, e_loc, e_and, e_or, e_bin, e_not, e_neg, e_cmp, e_tup, e_lst, e_edict, e_idx, e_comp, e_call, e_bi, e_meth, e_nil, e_cons, e_and1, e_and2, e_or1, e_or2, x_assign, x_setitem, x_expr, x_ret, x_ite, x_for, x_nil, x_cons, Bool.false_eq_true, if_false, items_tup, items_lst, items_rng, items_dct, lkV_tup, lkV_lst, lkV_rng, lkV_dct, lockV_tup, lockV_lst, lockV_rng, lockV_dct, unlk_ok, box_0, box_1, val_list, val_dict, obj_list, obj_dict, Nat.pred_zero, Nat.pred_succ, Nat.pred, Option.map_some, Bool.not_true, Bool.not_false, List.take_left, List.take_length, bind_ok, k_bin1, k_bin2, k_not, k_neg, k_cmp1, k_cmp2, k_tup, k_lst, k_idx1, k_idx2, k_comp1, k_compI, k_comp2, k_call, k_bi, k_meth1, k_methI, k_meth2, k_meth3, k_cons1, k_cons2, k_and, k_and_t, k_and_f, k_or, k_or_t, k_or_f, k_assign, k_set1, k_set2, k_set3, k_set4, k_expr, k_ret, k_if, k_if_t, k_if_f, k_for, k_forI, k_seq, k_seq_n, k_seq_r, List.getElem?_cons_zero, List.getElem?_cons_succ, List.set_cons_zero, List.set_cons_succ, fin_v, fin_f0, fin_f1, okB_some, truth_bool, constP_int, constP_str, constP_bool, constP_none, add_ii, sub_ii, lt_ii, gt_ii, le_ii, eq_ii, ne_ii, eq_ss, kill, List.foldl_cons, List.foldl_nil, setAll, bindT, tgtSlots, Flw.out, hc', frz_int, hc]
theorem cellAt_ge (ns : List Int) (k : Nat) : 0 ≤ cellAt ns k := by
  unfold cellAt; split
  · exact Int.fmod_nonneg_of_pos _ (by decide)
  · decide
theorem cellAt_lt (ns : List Int) (k : Nat) : cellAt ns k < 1000000000000000003 := by
  unfold cellAt; split
  · exact Int.fmod_lt_of_pos _ (by decide)
  · decide

noncomputable def mixN (cell k : Int) : Int := (cell * 48271 + k * 69621 + 11).fmod 2147483647
noncomputable def mix (cell k : Int) : Int := (mixN cell k * mixN cell k + 7 * mixN cell k + k).fmod 2147483629
theorem mixN_bd (cell k : Int) : 0 ≤ mixN cell k ∧ mixN cell k < 2147483647 := ⟨Int.fmod_nonneg_of_pos _ (by decide), Int.fmod_lt_of_pos _ (by decide)⟩
theorem mix_bd (cell k : Int) : 0 ≤ mix cell k ∧ mix cell k < 2147483629 := ⟨Int.fmod_nonneg_of_pos _ (by decide), Int.fmod_lt_of_pos _ (by decide)⟩
theorem run_mix (cell k : Int) (d : Nat) (σ : AH) : callD G (d + 1) "_law_mix" [.int cell, .int k] σ = .ok (.int (mix cell k)) σ := by
  have hb := mixN_bd cell k
  have h1 : IntMulOk cell 48271 := mulOk_r (by decide) (by decide)
  have h2 : IntMulOk k 69621 := mulOk_r (by decide) (by decide)
  have h3 : IntMulOk (mixN cell k) (mixN cell k) := mulOk_l (by omega) (by omega)
  have h4 : IntMulOk 7 (mixN cell k) := mulOk_l (by decide) (by decide)
  unfold mixN at h3 h4
  simp only [callD, runFn, List.length_cons, List.length_nil, Nat.reduceAdd, Nat.reduceSub, if_true, Nat.sub_self, Nat.sub_zero, List.replicate_zero, List.replicate_succ, List.replicate, List.append_nil, List.nil_append, List.cons_append, e_const, e_loc, e_and, e_or, e_bin, e_not, e_neg, e_cmp, e_tup, e_lst, e_edict, e_idx, e_comp, e_call, e_bi, e_meth, e_nil, e_cons, e_and1, e_and2, e_or1, e_or2, x_assign, x_setitem, x_expr, x_ret, x_ite, x_for, x_nil, x_cons, Bool.false_eq_true, if_false, items_tup, items_lst, items_rng, items_dct, lkV_tup, lkV_lst, lkV_rng, lkV_dct, lockV_tup, lockV_lst, lockV_rng, lockV_dct, unlk_ok, box_0, box_1, val_list, val_dict, obj_list, obj_dict, Nat.pred_zero, Nat.pred_succ, Nat.pred, Option.map_some, Bool.not_true, Bool.not_false, List.take_left, List.take_length, bind_ok, k_bin1, k_bin2, k_not, k_neg, k_cmp1, k_cmp2, k_tup, k_lst, k_idx1, k_idx2, k_comp1, k_compI, k_comp2, k_call, k_bi, k_meth1, k_methI, k_meth2, k_meth3, k_cons1, k_cons2, k_and, k_and_t, k_and_f, k_or, k_or_t, k_or_f, k_assign, k_set1, k_set2, k_set3, k_set4, k_expr, k_ret, k_if, k_if_t, k_if_f, k_for, k_forI, k_seq, k_seq_n, k_seq_r, List.getElem?_cons_zero, List.getElem?_cons_succ, List.set_cons_zero, List.set_cons_succ, fin_v, fin_f0, fin_f1, okB_some, truth_bool, constP_int, constP_str, constP_bool, constP_none, add_ii, sub_ii, lt_ii, gt_ii, le_ii, eq_ii, ne_ii, eq_ss, kill, List.foldl_cons, List.foldl_nil, setAll, bindT, tgtSlots, Flw.out, fn_mix, F_law_mix, mul_ii _ _ _ h1, mul_ii _ _ _ h2, mul_ii _ _ _ h3, mul_ii _ _ _ h4, mod_ii _ _ _ (show (2147483647 : Int) ≠ 0 by decide), mod_ii _ _ _ (show (2147483629 : Int) ≠ 0 by decide), frz_int, List.take_length]
  simp [mix, mixN]
end Mine

set_option autoImplicit false
set_option maxRecDepth 100000
set_option linter.unusedSimpArgs false
set_option linter.unusedVariables false
set_option exponentiation.threshold 2000
namespace Mine
open PySem
theorem fn_made : G.fn "_law_made" = some F_law_made := by rfl
theorem fn_mod : G.fn "measure_of_dict" = some F_measure_of_dict := by rfl
theorem fn_put : G.fn "put_to" = some F_put_to := by rfl
theorem set_last {σ : AH} {o : AObj} (o' : AObj) : (σ ++ [o]).set σ.length o' = σ ++ [o'] := by simp
theorem get_last {σ : AH} {o : AObj} : (σ ++ [o])[σ.length]? = some o := by simp
theorem take_last {σ : AH} {o : AObj} : (σ ++ [o]).take σ.length = σ := by simp

theorem deref_d {σ : AH} {i : Nat} {b : Bool} {l : List (Str × PV)} (h : σ[i]? = some (.dict b l)) : deref σ (.ref i) = .dct l := congrArg derefO h
theorem deref_l {σ : AH} {i : Nat} {b : Bool} {l : List PV} (h : σ[i]? = some (.list b l)) : deref σ (.ref i) = .lst l := congrArg derefO h
theorem get_dv {σ : AH} {i : Nat} {b : Bool} {D : DI} (h : σ[i]? = some (.dict b (dv D))) {k : Str} (hk : k ∈ D.map (·.1)) : getAt σ (.ref i) (.str k) = some (.v (.int (val D k))) := by
  obtain ⟨v, hv⟩ := dget_some hk
  unfold getAt
  rw [deref_d h]
  show (dget (dv D) k).map Out.v = _
  rw [dv_get, hv]
  unfold val
  rw [hv]; rfl
theorem sorted_dv {σ : AH} {i : Nat} {b : Bool} {D : DI} (h : σ[i]? = some (.dict b (dv D))) (hl : D.length < sortMost) : biP σ .sorted [.ref i] = some (.f (.list ((sortS (D.map (·.1))).map .str))) := by
  show (sortD (deref σ (.ref i))).bind _ = _
  rw [deref_d h]
  show (if ((dv D).map (·.1)).length < sortMost then some (Out.f (.list ((sortS ((dv D).map (·.1))).map .str))) else none) = _
  rw [dv_keys, List.length_map, if_pos hl]
theorem tuple_lst {σ : AH} {l : List PV} (h : l.length ≤ 1000000) : biP σ .tuple [.lst l] = some (.v (.tup l)) := if_pos (decide_eq_true h)
theorem lt_neg_zero (k : Int) : (!(k == 0)) = decide (k ≠ 0) := by
  by_cases h : k = 0 <;> simp [h]

theorem comp_made (c : Cx) {σ : AH} {i : Nat} {b : Bool} {D : DI} (h : σ[i]? = some (.dict b (dv D))) : ∀ ks : List Str, (∀ k ∈ ks, k ∈ D.map (·.1)) →
    compL (ev c (.cmp .NotEq (.idx (.loc 0) (.loc 1)) (.const (.int 0))) 0) (ev c (.tup (.cons (.loc 1) (.cons (.idx (.loc 0) (.loc 1)) .nil))) 0) (.one 1) [.ref i, .undef] (ks.map .str) σ = .ok ((ks.filterMap fun k => if val D k ≠ 0 then some (k, val D k) else none).map fun kv => .tup [.str kv.1, .int kv.2]) σ := by
  intro ks
  induction ks with
  | nil => intro _; simp [compL]
  | cons k ks ih =>
    intro hk
    have h1 := get_dv h (hk k (List.mem_cons_self ..))
    have h2 := ih fun x hx => hk x (List.mem_cons_of_mem _ hx)
    rw [List.map_cons, compL]
    simp only [callD, runFn, List.length_cons, List.length_nil, Nat.reduceAdd, Nat.reduceSub, if_true, Nat.sub_self, Nat.sub_zero, List.replicate_zero, List.replicate_succ, List.replicate, List.append_nil, List.nil_append, List.cons_append, e_const, e_loc, e_and, e_or, e_bin, e_not, e_neg, e_cmp, e_tup, e_lst, e_edict, e_idx, e_comp, e_call, e_bi, e_meth, e_nil, e_cons, e_and1, e_and2, e_or1, e_or2, x_assign, x_setitem, x_expr, x_ret, x_ite, x_for, x_nil, x_cons, Bool.false_eq_true, if_false, items_tup, items_lst, items_rng, items_dct, lkV_tup, lkV_lst, lkV_rng, lkV_dct, lockV_tup, lockV_lst, lockV_rng, lockV_dct, unlk_ok, box_0, box_1, val_list, val_dict, obj_list, obj_dict, Nat.pred_zero, Nat.pred_succ, Nat.pred, Option.map_some, Bool.not_true, Bool.not_false, List.take_left, List.take_length, bind_ok, k_bin1, k_bin2, k_not, k_neg, k_cmp1, k_cmp2, k_tup, k_lst, k_idx1, k_idx2, k_comp1, k_compI, k_comp2, k_call, k_bi, k_meth1, k_methI, k_meth2, k_meth3, k_cons1, k_cons2, k_and, k_and_t, k_and_f, k_or, k_or_t, k_or_f, k_assign, k_set1, k_set2, k_set3, k_set4, k_expr, k_ret, k_if, k_if_t, k_if_f, k_for, k_forI, k_seq, k_seq_n, k_seq_r, List.getElem?_cons_zero, List.getElem?_cons_succ, List.set_cons_zero, List.set_cons_succ, fin_v, fin_f0, fin_f1, okB_some, truth_bool, constP_int, constP_str, constP_bool, constP_none, add_ii, sub_ii, lt_ii, gt_ii, le_ii, eq_ii, ne_ii, eq_ss, kill, List.foldl_cons, List.foldl_nil, setAll, bindT, tgtSlots, Flw.out, h1]
    by_cases h0 : val D k = 0
    · simp only [h0, callD, runFn, List.length_cons, List.length_nil, Nat.reduceAdd, Nat.reduceSub, if_true, Nat.sub_self, Nat.sub_zero, List.replicate_zero, List.replicate_succ, List.replicate, List.append_nil, List.nil_append, List.cons_append, e_const, e_loc, e_and, e_or, e_bin, e_not, e_neg, e_cmp, e_tup, e_lst, e_edict, e_idx, e_comp, e_call, e_bi, e_meth, e_nil, e_cons, e_and1, e_and2, e_or1, e_or2, x_assign, x_setitem, x_expr, x_ret, x_ite, x_for, x_nil, x_cons, Bool.false_eq_true, if_false, items_tup, items_lst, items_rng, items_dct, lkV_tup, lkV_lst, lkV_rng, lkV_dct, lockV_tup, lockV_lst, lockV_rng, lockV_dct, unlk_ok, box_0, box_1, val_list, val_dict, obj_list, obj_dict, Nat.pred_zero, Nat.pred_succ, Nat.pred, Option.map_some, Bool.not_true, Bool.not_false, List.take_left, List.take_length, bind_ok, k_bin1, k_bin2, k_not, k_neg, k_cmp1, k_cmp2, k_tup, k_lst, k_idx1, k_idx2, k_comp1, k_compI, k_comp2, k_call, k_bi, k_meth1, k_methI, k_meth2, k_meth3, k_cons1, k_cons2, k_and, k_and_t, k_and_f, k_or, k_or_t, k_or_f, k_assign, k_set1, k_set2, k_set3, k_set4, k_expr, k_ret, k_if, k_if_t, k_if_f, k_for, k_forI, k_seq, k_seq_n, k_seq_r, List.getElem?_cons_zero, List.getElem?_cons_succ, List.set_cons_zero, List.set_cons_succ, fin_v, fin_f0, fin_f1, okB_some, truth_bool, constP_int, constP_str, constP_bool, constP_none, add_ii, sub_ii, lt_ii, gt_ii, le_ii, eq_ii, ne_ii, eq_ss, kill, List.foldl_cons, List.foldl_nil, setAll, bindT, tgtSlots, Flw.out, beq_self_eq_true, Bool.not_true]
      rw [h2]
      simp [h0]
    · have h3 : (!(val D k == 0)) = true := by simp [h0]
      simp only [h3, h2, callD, runFn, List.length_cons, List.length_nil, Nat.reduceAdd, Nat.reduceSub, if_true, Nat.sub_self, Nat.sub_zero, List.replicate_zero, List.replicate_succ, List.replicate, List.append_nil, List.nil_append, List.cons_append, e_const, e_loc, e_and, e_or, e_bin, e_not, e_neg, e_cmp, e_tup, e_lst, e_edict, e_idx, e_comp, e_call, e_bi, e_meth, e_nil, e_cons, e_and1, e_and2, e_or1, e_or2, x_assign, x_setitem, x_expr, x_ret, x_ite, x_for, x_nil, x_cons, Bool.false_eq_true, if_false, items_tup, items_lst, items_rng, items_dct, lkV_tup, lkV_lst, lkV_rng, lkV_dct, lockV_tup, lockV_lst, lockV_rng, lockV_dct, unlk_ok, box_0, box_1, val_list, val_dict, obj_list, obj_dict, Nat.pred_zero, Nat.pred_succ, Nat.pred, Option.map_some, Bool.not_true, Bool.not_false, List.take_left, List.take_length, bind_ok, k_bin1, k_bin2, k_not, k_neg, k_cmp1, k_cmp2, k_tup, k_lst, k_idx1, k_idx2, k_comp1, k_compI, k_comp2, k_call, k_bi, k_meth1, k_methI, k_meth2, k_meth3, k_cons1, k_cons2, k_and, k_and_t, k_and_f, k_or, k_or_t, k_or_f, k_assign, k_set1, k_set2, k_set3, k_set4, k_expr, k_ret, k_if, k_if_t, k_if_f, k_for, k_forI, k_seq, k_seq_n, k_seq_r, List.getElem?_cons_zero, List.getElem?_cons_succ, List.set_cons_zero, List.set_cons_succ, fin_v, fin_f0, fin_f1, okB_some, truth_bool, constP_int, constP_str, constP_bool, constP_none, add_ii, sub_ii, lt_ii, gt_ii, le_ii, eq_ii, ne_ii, eq_ss, kill, List.foldl_cons, List.foldl_nil, setAll, bindT, tgtSlots, Flw.out]
      simp [h0]

theorem run_made_of {F : Str} (hF : G.fn F = some F_law_made) {σ : AH} {i : Nat} {b : Bool} {D : DI} (h : σ[i]? = some (.dict b (dv D))) (hl : D.length < sortMost) (d : Nat) :
    callD G (d + 1) F [.ref i] σ = .ok (mv (madeL D)) σ := by
  have h1 := sorted_dv h hl
  have h2 : (madeL D).length ≤ 1000000 := by
    unfold madeL
    refine Nat.le_trans (List.length_filterMap_le ..) ?_
    rw [(sortS_perm _).length_eq, List.length_map]
    have : sortMost ≤ 1000 := by decide
    omega
  have h3 := comp_made ⟨G.const, callD G d⟩ h (sortS (D.map (·.1))) (fun k hk => (sortS_perm _).mem_iff.mp hk)
  simp only [callD, runFn, List.length_cons, List.length_nil, Nat.reduceAdd, Nat.reduceSub, if_true, Nat.sub_self, Nat.sub_zero, List.replicate_zero, List.replicate_succ, List.replicate, List.append_nil, List.nil_append, List.cons_append, e_const, e_loc, e_and, e_or, e_bin, e_not, e_neg, e_cmp, e_tup, e_lst, e_edict, e_idx, e_comp, e_call, e_bi, e_meth, e_nil, e_cons, e_and1, e_and2, e_or1, e_or2, x_assign, x_setitem, x_expr, x_ret, x_ite, x_for, x_nil, x_cons, Bool.false_eq_true, if_false, items_tup, items_lst, items_rng, items_dct, lkV_tup, lkV_lst, lkV_rng, lkV_dct, lockV_tup, lockV_lst, lockV_rng, lockV_dct, unlk_ok, box_0, box_1, val_list, val_dict, obj_list, obj_dict, Nat.pred_zero, Nat.pred_succ, Nat.pred, Option.map_some, Bool.not_true, Bool.not_false, List.take_left, List.take_length, bind_ok, k_bin1, k_bin2, k_not, k_neg, k_cmp1, k_cmp2, k_tup, k_lst, k_idx1, k_idx2, k_comp1, k_compI, k_comp2, k_call, k_bi, k_meth1, k_methI, k_meth2, k_meth3, k_cons1, k_cons2, k_and, k_and_t, k_and_f, k_or, k_or_t, k_or_f, k_assign, k_set1, k_set2, k_set3, k_set4, k_expr, k_ret, k_if, k_if_t, k_if_f, k_for, k_forI, k_seq, k_seq_n, k_seq_r, List.getElem?_cons_zero, List.getElem?_cons_succ, List.set_cons_zero, List.set_cons_succ, fin_v, fin_f0, fin_f1, okB_some, truth_bool, constP_int, constP_str, constP_bool, constP_none, add_ii, sub_ii, lt_ii, gt_ii, le_ii, eq_ii, ne_ii, eq_ss, kill, List.foldl_cons, List.foldl_nil, setAll, bindT, tgtSlots, Flw.out, hF, F_law_made, h1]
  rw [h3]
  simp only [callD, runFn, List.length_cons, List.length_nil, Nat.reduceAdd, Nat.reduceSub, if_true, Nat.sub_self, Nat.sub_zero, List.replicate_zero, List.replicate_succ, List.replicate, List.append_nil, List.nil_append, List.cons_append, e_const, e_loc, e_and, e_or, e_bin, e_not, e_neg, e_cmp, e_tup, e_lst, e_edict, e_idx, e_comp, e_call, e_bi, e_meth, e_nil, e_cons, e_and1, e_and2, e_or1, e_or2, x_assign, x_setitem, x_expr, x_ret, x_ite, x_for, x_nil, x_cons, Bool.false_eq_true, if_false, items_tup, items_lst, items_rng, items_dct, lkV_tup, lkV_lst, lkV_rng, lkV_dct, lockV_tup, lockV_lst, lockV_rng, lockV_dct, unlk_ok, box_0, box_1, val_list, val_dict, obj_list, obj_dict, Nat.pred_zero, Nat.pred_succ, Nat.pred, Option.map_some, Bool.not_true, Bool.not_false, List.take_left, List.take_length, bind_ok, k_bin1, k_bin2, k_not, k_neg, k_cmp1, k_cmp2, k_tup, k_lst, k_idx1, k_idx2, k_comp1, k_compI, k_comp2, k_call, k_bi, k_meth1, k_methI, k_meth2, k_meth3, k_cons1, k_cons2, k_and, k_and_t, k_and_f, k_or, k_or_t, k_or_f, k_assign, k_set1, k_set2, k_set3, k_set4, k_expr, k_ret, k_if, k_if_t, k_if_f, k_for, k_forI, k_seq, k_seq_n, k_seq_r, List.getElem?_cons_zero, List.getElem?_cons_succ, List.set_cons_zero, List.set_cons_succ, fin_v, fin_f0, fin_f1, okB_some, truth_bool, constP_int, constP_str, constP_bool, constP_none, add_ii, sub_ii, lt_ii, gt_ii, le_ii, eq_ii, ne_ii, eq_ss, kill, List.foldl_cons, List.foldl_nil, setAll, bindT, tgtSlots, Flw.out, List.length_map, small]
  have h4 : decide ((List.filterMap (fun k => if val D k ≠ 0 then some (k, val D k) else none) (sortS (List.map (fun x => x.fst) D))).length ≤ 1000000) = true := decide_eq_true h2
  simp only [h4, if_true, box, callD, runFn, List.length_cons, List.length_nil, Nat.reduceAdd, Nat.reduceSub, if_true, Nat.sub_self, Nat.sub_zero, List.replicate_zero, List.replicate_succ, List.replicate, List.append_nil, List.nil_append, List.cons_append, e_const, e_loc, e_and, e_or, e_bin, e_not, e_neg, e_cmp, e_tup, e_lst, e_edict, e_idx, e_comp, e_call, e_bi, e_meth, e_nil, e_cons, e_and1, e_and2, e_or1, e_or2, x_assign, x_setitem, x_expr, x_ret, x_ite, x_for, x_nil, x_cons, Bool.false_eq_true, if_false, items_tup, items_lst, items_rng, items_dct, lkV_tup, lkV_lst, lkV_rng, lkV_dct, lockV_tup, lockV_lst, lockV_rng, lockV_dct, unlk_ok, box_0, box_1, val_list, val_dict, obj_list, obj_dict, Nat.pred_zero, Nat.pred_succ, Nat.pred, Option.map_some, Bool.not_true, Bool.not_false, List.take_left, List.take_length, bind_ok, k_bin1, k_bin2, k_not, k_neg, k_cmp1, k_cmp2, k_tup, k_lst, k_idx1, k_idx2, k_comp1, k_compI, k_comp2, k_call, k_bi, k_meth1, k_methI, k_meth2, k_meth3, k_cons1, k_cons2, k_and, k_and_t, k_and_f, k_or, k_or_t, k_or_f, k_assign, k_set1, k_set2, k_set3, k_set4, k_expr, k_ret, k_if, k_if_t, k_if_f, k_for, k_forI, k_seq, k_seq_n, k_seq_r, List.getElem?_cons_zero, List.getElem?_cons_succ, List.set_cons_zero, List.set_cons_succ, fin_v, fin_f0, fin_f1, okB_some, truth_bool, constP_int, constP_str, constP_bool, constP_none, add_ii, sub_ii, lt_ii, gt_ii, le_ii, eq_ii, ne_ii, eq_ss, kill, List.foldl_cons, List.foldl_nil, setAll, bindT, tgtSlots, Flw.out, Frs.val]
  rw [tuple_lst (by rw [List.length_map]; exact h2)]
  simp only [callD, runFn, List.length_cons, List.length_nil, Nat.reduceAdd, Nat.reduceSub, if_true, Nat.sub_self, Nat.sub_zero, List.replicate_zero, List.replicate_succ, List.replicate, List.append_nil, List.nil_append, List.cons_append, e_const, e_loc, e_and, e_or, e_bin, e_not, e_neg, e_cmp, e_tup, e_lst, e_edict, e_idx, e_comp, e_call, e_bi, e_meth, e_nil, e_cons, e_and1, e_and2, e_or1, e_or2, x_assign, x_setitem, x_expr, x_ret, x_ite, x_for, x_nil, x_cons, Bool.false_eq_true, if_false, items_tup, items_lst, items_rng, items_dct, lkV_tup, lkV_lst, lkV_rng, lkV_dct, lockV_tup, lockV_lst, lockV_rng, lockV_dct, unlk_ok, box_0, box_1, val_list, val_dict, obj_list, obj_dict, Nat.pred_zero, Nat.pred_succ, Nat.pred, Option.map_some, Bool.not_true, Bool.not_false, List.take_left, List.take_length, bind_ok, k_bin1, k_bin2, k_not, k_neg, k_cmp1, k_cmp2, k_tup, k_lst, k_idx1, k_idx2, k_comp1, k_compI, k_comp2, k_call, k_bi, k_meth1, k_methI, k_meth2, k_meth3, k_cons1, k_cons2, k_and, k_and_t, k_and_f, k_or, k_or_t, k_or_f, k_assign, k_set1, k_set2, k_set3, k_set4, k_expr, k_ret, k_if, k_if_t, k_if_f, k_for, k_forI, k_seq, k_seq_n, k_seq_r, List.getElem?_cons_zero, List.getElem?_cons_succ, List.set_cons_zero, List.set_cons_succ, fin_v, fin_f0, fin_f1, okB_some, truth_bool, constP_int, constP_str, constP_bool, constP_none, add_ii, sub_ii, lt_ii, gt_ii, le_ii, eq_ii, ne_ii, eq_ss, kill, List.foldl_cons, List.foldl_nil, setAll, bindT, tgtSlots, Flw.out, List.take_length, if_true]
  have h5 := mv_pure (madeL D)
  unfold mv madeL at h5 ⊢
  rw [frz_pure h5]
theorem run_made {σ : AH} {i : Nat} {b : Bool} {D : DI} (h : σ[i]? = some (.dict b (dv D))) (hl : D.length < sortMost) (d : Nat) : callD G (d + 1) "_law_made" [.ref i] σ = .ok (mv (madeL D)) σ := run_made_of fn_made h hl d
theorem run_mod {σ : AH} {i : Nat} {b : Bool} {D : DI} (h : σ[i]? = some (.dict b (dv D))) (hl : D.length < sortMost) (d : Nat) : callD G (d + 1) "measure_of_dict" [.ref i] σ = .ok (mv (madeL D)) σ := run_made_of fn_mod h hl d

theorem get_dvD {σ : AH} {i : Nat} {b : Bool} {D : DI} (h : σ[i]? = some (.dict b (dv D))) (k : Str) : bmP σ .get (.ref i) [.str k, .int 0] = some (.int (val D k), σ) := by
  show (dctOf (deref σ (.ref i))).bind _ = _
  rw [deref_d h]
  exact congrArg (fun x => some (x, σ)) (dv_getD D k)
theorem isTy_dv {σ : AH} {i : Nat} {b : Bool} {D : List (Str × PV)} (h : σ[i]? = some (.dict b D)) : isTy σ .dict (.ref i) = some true := by
  show isTyD .dict (deref σ (.ref i)) = _
  rw [deref_d h]; rfl
theorem openD_of {σ : AH} {i : Nat} {D : List (Str × PV)} (h : σ[i]? = some (.dict false D)) : openD σ i = some D := by unfold openD; rw [h]
theorem set_dv {σ : AH} {i : Nat} {D : DI} (h : σ[i]? = some (.dict false (dv D))) (hl : D.length ≤ 1000000) (k : Str) (v : Int) : setAt σ (.ref i) (.str k) (.int v) = some (σ.set i (.dict false (dv (dput D k v)))) := by
  show (openD σ i).bind _ = _
  rw [openD_of h, ← dv_put]
  exact if_pos (decide_eq_true (dv_len D ▸ hl))

theorem run_put {ms : DI} {n : Int} (hm : ∀ kv ∈ ms, IntMulOk kv.2 n) (d : Nat) : ∀ {σ : AH} {i : Nat} {D : DI}, σ[i]? = some (.dict false (dv D)) → D.length + ms.length ≤ 1000000 →
    callD G (d + 1) "put_to" [.ref i, mv ms, .int n] σ = .ok .none (σ.set i (.dict false (dv (putF D ms n)))) := by
  intro σ i D h hl
  have key : ∀ (l : DI) (σ : AH) (D : DI), (∀ kv ∈ l, IntMulOk kv.2 n) → σ[i]? = some (.dict false (dv D)) → D.length + l.length ≤ 1000000 →
    forL (execs ⟨G.const, callD G d⟩ (.cons (.setitem (.loc 0) (.loc 3) 0 (.bin .Add (.meth (.loc 0) .get (.cons (.loc 3) (.cons (.const (.int 0)) .nil))) (.bin .Mult (.loc 4) (.loc 2)))) .nil)) (.many [3, 4]) [3, 4]
      (l.map fun kv => .tup [.str kv.1, .int kv.2]) [.ref i, mv ms, .int n, .undef, .undef] σ = .ok (.next, [.ref i, mv ms, .int n, .undef, .undef]) (σ.set i (.dict false (dv (putF D l n)))) := by
    intro l
    induction l with
    | nil =>
      intro σ D _ h _
      have : i < σ.length := by rcases Nat.lt_or_ge i σ.length with q | q; exact q; simp [q] at h
      have e : σ.set i (.dict false (dv D)) = σ := by
        apply List.ext_getElem?
        intro j
        rw [List.getElem?_set]
        split
        · rename_i q; subst q; simp only [this, if_true, h]
        · rfl
      simp only [List.map_nil, forL, callD, runFn, List.length_cons, List.length_nil, Nat.reduceAdd, Nat.reduceSub, if_true, Nat.sub_self, Nat.sub_zero, List.replicate_zero, List.replicate_succ, List.replicate, List.append_nil, List.nil_append, List.cons_append, e_const, e_loc, e_and, e_or, e_bin, e_not, e_neg, e_cmp, e_tup, e_lst, e_edict, e_idx, e_comp, e_call, e_bi, e_meth, e_nil, e_cons, e_and1, e_and2, e_or1, e_or2, x_assign, x_setitem, x_expr, x_ret, x_ite, x_for, x_nil, x_cons, Bool.false_eq_true, if_false, items_tup, items_lst, items_rng, items_dct, lkV_tup, lkV_lst, lkV_rng, lkV_dct, lockV_tup, lockV_lst, lockV_rng, lockV_dct, unlk_ok, box_0, box_1, val_list, val_dict, obj_list, obj_dict, Nat.pred_zero, Nat.pred_succ, Nat.pred, Option.map_some, Bool.not_true, Bool.not_false, List.take_left, List.take_length, bind_ok, k_bin1, k_bin2, k_not, k_neg, k_cmp1, k_cmp2, k_tup, k_lst, k_idx1, k_idx2, k_comp1, k_compI, k_comp2, k_call, k_bi, k_meth1, k_methI, k_meth2, k_meth3, k_cons1, k_cons2, k_and, k_and_t, k_and_f, k_or, k_or_t, k_or_f, k_assign, k_set1, k_set2, k_set3, k_set4, k_expr, k_ret, k_if, k_if_t, k_if_f, k_for, k_forI, k_seq, k_seq_n, k_seq_r, List.getElem?_cons_zero, List.getElem?_cons_succ, List.set_cons_zero, List.set_cons_succ, fin_v, fin_f0, fin_f1, okB_some, truth_bool, constP_int, constP_str, constP_bool, constP_none, add_ii, sub_ii, lt_ii, gt_ii, le_ii, eq_ii, ne_ii, eq_ss, kill, List.foldl_cons, List.foldl_nil, setAll, bindT, tgtSlots, Flw.out, putF]
      rw [e]
    | cons kv l ih =>
      intro σ D hm h hl
      rw [List.length_cons] at hl
      have e1 := get_dvD h kv.1
      have e2 := isTy_dv h
      have e3 := mul_ii σ kv.2 n (hm kv (List.mem_cons_self ..))
      have e4 := set_dv h (by omega) kv.1 (val D kv.1 + kv.2 * n)
      rw [List.map_cons, forL]
      simp only [callD, runFn, List.length_cons, List.length_nil, Nat.reduceAdd, Nat.reduceSub, if_true, Nat.sub_self, Nat.sub_zero, List.replicate_zero, List.replicate_succ, List.replicate, List.append_nil, List.nil_append, List.cons_append, e_const, e_loc, e_and, e_or, e_bin, e_not, e_neg, e_cmp, e_tup, e_lst, e_edict, e_idx, e_comp, e_call, e_bi, e_meth, e_nil, e_cons, e_and1, e_and2, e_or1, e_or2, x_assign, x_setitem, x_expr, x_ret, x_ite, x_for, x_nil, x_cons, Bool.false_eq_true, if_false, items_tup, items_lst, items_rng, items_dct, lkV_tup, lkV_lst, lkV_rng, lkV_dct, lockV_tup, lockV_lst, lockV_rng, lockV_dct, unlk_ok, box_0, box_1, val_list, val_dict, obj_list, obj_dict, Nat.pred_zero, Nat.pred_succ, Nat.pred, Option.map_some, Bool.not_true, Bool.not_false, List.take_left, List.take_length, bind_ok, k_bin1, k_bin2, k_not, k_neg, k_cmp1, k_cmp2, k_tup, k_lst, k_idx1, k_idx2, k_comp1, k_compI, k_comp2, k_call, k_bi, k_meth1, k_methI, k_meth2, k_meth3, k_cons1, k_cons2, k_and, k_and_t, k_and_f, k_or, k_or_t, k_or_f, k_assign, k_set1, k_set2, k_set3, k_set4, k_expr, k_ret, k_if, k_if_t, k_if_f, k_for, k_forI, k_seq, k_seq_n, k_seq_r, List.getElem?_cons_zero, List.getElem?_cons_succ, List.set_cons_zero, List.set_cons_succ, fin_v, fin_f0, fin_f1, okB_some, truth_bool, constP_int, constP_str, constP_bool, constP_none, add_ii, sub_ii, lt_ii, gt_ii, le_ii, eq_ii, ne_ii, eq_ss, kill, List.foldl_cons, List.foldl_nil, setAll, bindT, tgtSlots, Flw.out, BM.ty, e1, e2, e3, e4, mv]
      have hi : i < σ.length := by rcases Nat.lt_or_ge i σ.length with q | q; exact q; simp [q] at h
      have h' : (σ.set i (.dict false (dv (dput D kv.1 (val D kv.1 + kv.2 * n)))))[i]? = some (.dict false (dv (dput D kv.1 (val D kv.1 + kv.2 * n)))) := by simp [hi]
      have := ih _ (dput D kv.1 (val D kv.1 + kv.2 * n)) (fun q hq => hm q (List.mem_cons_of_mem _ hq)) h' (by
        have : (dput D kv.1 (val D kv.1 + kv.2 * n)).length ≤ D.length + 1 := by unfold dput; split <;> simp
        omega)
      have fk : ∀ a b : PV, forL (execs ⟨G.const, callD G d⟩ (.cons (.setitem (.loc 0) (.loc 3) 0 (.bin .Add (.meth (.loc 0) .get (.cons (.loc 3) (.cons (.const (.int 0)) .nil))) (.bin .Mult (.loc 4) (.loc 2)))) .nil)) (.many [3, 4]) [3, 4]
        (l.map fun kv => .tup [.str kv.1, .int kv.2]) [.ref i, mv ms, .int n, a, b] = forL (execs ⟨G.const, callD G d⟩ (.cons (.setitem (.loc 0) (.loc 3) 0 (.bin .Add (.meth (.loc 0) .get (.cons (.loc 3) (.cons (.const (.int 0)) .nil))) (.bin .Mult (.loc 4) (.loc 2)))) .nil)) (.many [3, 4]) [3, 4]
        (l.map fun kv => .tup [.str kv.1, .int kv.2]) [.ref i, mv ms, .int n, .undef, .undef] := by
        intro a b; funext σ; cases l <;> simp only [List.map_nil, List.map_cons, forL, callD, runFn, List.length_cons, List.length_nil, Nat.reduceAdd, Nat.reduceSub, if_true, Nat.sub_self, Nat.sub_zero, List.replicate_zero, List.replicate_succ, List.replicate, List.append_nil, List.nil_append, List.cons_append, e_const, e_loc, e_and, e_or, e_bin, e_not, e_neg, e_cmp, e_tup, e_lst, e_edict, e_idx, e_comp, e_call, e_bi, e_meth, e_nil, e_cons, e_and1, e_and2, e_or1, e_or2, x_assign, x_setitem, x_expr, x_ret, x_ite, x_for, x_nil, x_cons, Bool.false_eq_true, if_false, items_tup, items_lst, items_rng, items_dct, lkV_tup, lkV_lst, lkV_rng, lkV_dct, lockV_tup, lockV_lst, lockV_rng, lockV_dct, unlk_ok, box_0, box_1, val_list, val_dict, obj_list, obj_dict, Nat.pred_zero, Nat.pred_succ, Nat.pred, Option.map_some, Bool.not_true, Bool.not_false, List.take_left, List.take_length, bind_ok, k_bin1, k_bin2, k_not, k_neg, k_cmp1, k_cmp2, k_tup, k_lst, k_idx1, k_idx2, k_comp1, k_compI, k_comp2, k_call, k_bi, k_meth1, k_methI, k_meth2, k_meth3, k_cons1, k_cons2, k_and, k_and_t, k_and_f, k_or, k_or_t, k_or_f, k_assign, k_set1, k_set2, k_set3, k_set4, k_expr, k_ret, k_if, k_if_t, k_if_f, k_for, k_forI, k_seq, k_seq_n, k_seq_r, List.getElem?_cons_zero, List.getElem?_cons_succ, List.set_cons_zero, List.set_cons_succ, fin_v, fin_f0, fin_f1, okB_some, truth_bool, constP_int, constP_str, constP_bool, constP_none, add_ii, sub_ii, lt_ii, gt_ii, le_ii, eq_ii, ne_ii, eq_ss, kill, List.foldl_cons, List.foldl_nil, setAll, bindT, tgtSlots, Flw.out]
      unfold mv at fk this
      rw [fk, this]
      simp only [List.set_set]
      rfl
  have k1 := key ms σ D hm h hl
  unfold mv at k1
  simp only [callD, runFn, List.length_cons, List.length_nil, Nat.reduceAdd, Nat.reduceSub, if_true, Nat.sub_self, Nat.sub_zero, List.replicate_zero, List.replicate_succ, List.replicate, List.append_nil, List.nil_append, List.cons_append, e_const, e_loc, e_and, e_or, e_bin, e_not, e_neg, e_cmp, e_tup, e_lst, e_edict, e_idx, e_comp, e_call, e_bi, e_meth, e_nil, e_cons, e_and1, e_and2, e_or1, e_or2, x_assign, x_setitem, x_expr, x_ret, x_ite, x_for, x_nil, x_cons, Bool.false_eq_true, if_false, items_tup, items_lst, items_rng, items_dct, lkV_tup, lkV_lst, lkV_rng, lkV_dct, lockV_tup, lockV_lst, lockV_rng, lockV_dct, unlk_ok, box_0, box_1, val_list, val_dict, obj_list, obj_dict, Nat.pred_zero, Nat.pred_succ, Nat.pred, Option.map_some, Bool.not_true, Bool.not_false, List.take_left, List.take_length, bind_ok, k_bin1, k_bin2, k_not, k_neg, k_cmp1, k_cmp2, k_tup, k_lst, k_idx1, k_idx2, k_comp1, k_compI, k_comp2, k_call, k_bi, k_meth1, k_methI, k_meth2, k_meth3, k_cons1, k_cons2, k_and, k_and_t, k_and_f, k_or, k_or_t, k_or_f, k_assign, k_set1, k_set2, k_set3, k_set4, k_expr, k_ret, k_if, k_if_t, k_if_f, k_for, k_forI, k_seq, k_seq_n, k_seq_r, List.getElem?_cons_zero, List.getElem?_cons_succ, List.set_cons_zero, List.set_cons_succ, fin_v, fin_f0, fin_f1, okB_some, truth_bool, constP_int, constP_str, constP_bool, constP_none, add_ii, sub_ii, lt_ii, gt_ii, le_ii, eq_ii, ne_ii, eq_ss, kill, List.foldl_cons, List.foldl_nil, setAll, bindT, tgtSlots, Flw.out, fn_put, F_put_to, mv, k1]
end Mine

set_option autoImplicit false
set_option maxRecDepth 100000
set_option linter.unusedSimpArgs false
set_option linter.unusedVariables false
set_option exponentiation.threshold 2000
namespace Mine
open PySem
theorem fn_ism : G.fn "_law_is_measure" = some F_law_is_measure := by rfl
theorem fn_whole : G.fn "_law_whole" = some F_law_whole := by rfl
theorem dict_mv {σ : AH} {ms : DI} (hn : (ms.map (·.1)).Nodup) (hl : ms.length ≤ 1000000) : biP σ .dict [mv ms] = some (.f (.dict (dv ms))) := by
  show (pairsOf (ms.map fun kv => .tup [.str kv.1, .int kv.2])).bind _ = _
  rw [pairsOf_mv]
  exact (if_pos (decide_eq_true (dv_len ms ▸ hl))).trans (by rw [dictOf_nodup hn])

theorem set_snoc {σ : AH} {o o' : AObj} : (σ ++ [o]).set σ.length o' = σ ++ [o'] := by simp
theorem get_snoc {σ : AH} {o : AObj} : (σ ++ [o])[σ.length]? = some o := by simp

/-- a loop that puts a measure to a dict -/
theorem loop_put (c : Cx) {i : Nat} {ρ0 : List PV} {body : PSs} {t : Tgt} {ks : List Nat} {n : Int} (l : DI)
    (hb : ∀ (kv : Str × Int) (σ : AH) (D : DI), kv ∈ l → σ[i]? = some (.dict false (dv D)) → D.length ≤ 1000000 → ∃ ρ1 ρ2, bindT t (.tup [.str kv.1, .int kv.2]) ρ0 = some ρ1 ∧ execs c body ρ1 σ = .ok (.next, ρ2) (σ.set i (.dict false (dv (dput D kv.1 (val D kv.1 + kv.2 * n))))) ∧ kill ks ρ2 = ρ0) :
    ∀ {ρ : List PV} {σ : AH} {D : DI}, σ[i]? = some (.dict false (dv D)) → D.length + l.length ≤ 1000000 → kill ks ρ = ρ0 →
    forL (execs c body) t ks (l.map fun kv => .tup [.str kv.1, .int kv.2]) ρ σ = .ok (.next, ρ0) (σ.set i (.dict false (dv (putF D l n)))) := by
  induction l with
  | nil =>
    intro ρ σ D h _ hk
    have hi : i < σ.length := by rcases Nat.lt_or_ge i σ.length with q | q; exact q; simp [q] at h
    have e : σ.set i (.dict false (dv D)) = σ := by
      apply List.ext_getElem?
      intro j
      rw [List.getElem?_set]
      split
      · rename_i q; subst q; simp only [hi, if_true, h]
      · rfl
    rw [List.map_nil, forL, hk]
    simp only [putF, List.foldl_nil, e]
  | cons kv l ih =>
    intro ρ σ D h hl hk
    rw [List.length_cons] at hl
    obtain ⟨ρ1, ρ2, h1, h2, h3⟩ := hb kv σ D (List.mem_cons_self ..) h (by omega)
    have hi : i < σ.length := by rcases Nat.lt_or_ge i σ.length with q | q; exact q; simp [q] at h
    rw [List.map_cons, forL, hk, h1]
    simp only [h2, bind_ok]
    rw [ih (fun q σ D hq => hb q σ D (List.mem_cons_of_mem _ hq)) (D := dput D kv.1 (val D kv.1 + kv.2 * n)) (by simp [hi]) (by
        have : (dput D kv.1 (val D kv.1 + kv.2 * n)).length ≤ D.length + 1 := by unfold dput; split <;> simp
        omega) h3]
    simp only [List.set_set]
    rfl

theorem run_whole (v : Int) (d : Nat) (σ : AH) : callD G (d + 1) "_law_whole" [.int v] σ = .ok (.bool true) σ := by
  have g1 : biP σ (.isinst .int) [.int v] = some (.v (.bool true)) := rfl
  have g2 : biP σ (.isinst .bool) [.int v] = some (.v (.bool false)) := rfl
  rw [callD_s fn_whole]
  simp only [runFn, List.length_cons, List.length_nil, Nat.reduceAdd, Nat.reduceSub, if_true, Nat.sub_self, Nat.sub_zero, List.replicate_zero, List.replicate_succ, List.replicate, List.append_nil, List.nil_append, List.cons_append, e_const, e_loc, e_and, e_or, e_bin, e_not, e_neg, e_cmp, e_tup, e_lst, e_edict, e_idx, e_comp, e_call, e_bi, e_meth, e_nil, e_cons, e_and1, e_and2, e_or1, e_or2, x_assign, x_setitem, x_expr, x_ret, x_ite, x_for, x_nil, x_cons, Bool.false_eq_true, if_false, items_tup, items_lst, items_rng, items_dct, lkV_tup, lkV_lst, lkV_rng, lkV_dct, lockV_tup, lockV_lst, lockV_rng, lockV_dct, unlk_ok, box_0, box_1, val_list, val_dict, obj_list, obj_dict, Nat.pred_zero, Nat.pred_succ, Nat.pred, Option.map_some, Bool.not_true, Bool.not_false, List.take_left, List.take_length, bind_ok, k_bin1, k_bin2, k_not, k_neg, k_cmp1, k_cmp2, k_tup, k_lst, k_idx1, k_idx2, k_comp1, k_compI, k_comp2, k_call, k_bi, k_meth1, k_methI, k_meth2, k_meth3, k_cons1, k_cons2, k_and, k_and_t, k_and_f, k_or, k_or_t, k_or_f, k_assign, k_set1, k_set2, k_set3, k_set4, k_expr, k_ret, k_if, k_if_t, k_if_f, k_for, k_forI, k_seq, k_seq_n, k_seq_r, List.getElem?_cons_zero, List.getElem?_cons_succ, List.set_cons_zero, List.set_cons_succ, fin_v, fin_f0, fin_f1, okB_some, truth_bool, constP_int, constP_str, constP_bool, constP_none, add_ii, sub_ii, lt_ii, gt_ii, le_ii, eq_ii, ne_ii, eq_ss, kill, List.foldl_cons, List.foldl_nil, setAll, bindT, tgtSlots, Flw.out, F_law_whole, g1, g2, frz_bool]

theorem strLt_empty {k : Str} (h : k ≠ (⟨#[]⟩ : Str)) : strLt ⟨#[]⟩ k = true := by
  refine strLt_of_le_ne ?_ (Ne.symm h)
  simp [strLt]

theorem run_ism {ms : DI} (hm : Meas ms) (d : Nat) (σ : AH) : callD G (d + 2) "_law_is_measure" [mv ms] σ = .ok (.bool true) σ := by
  have key : ∀ (l : DI) (a : Str) (ρ : List PV) (body : List PV → AH → Res FE), l.Pairwise (fun a b => strLt a.1 b.1 = true) → (∀ kv ∈ l, strLt a kv.1 = true ∧ kv.2 ≠ 0) → kill [2] ρ = [mv ms, .str a, .undef] →
      (∀ (kv : Str × Int) (a : Str), strLt a kv.1 = true → kv.2 ≠ 0 → body [mv ms, .str a, .tup [.str kv.1, .int kv.2]] σ = .ok (.next, [mv ms, .str kv.1, .tup [.str kv.1, .int kv.2]]) σ) →
      ∃ ρ', forL body (.one 2) [2] (l.map fun kv => .tup [.str kv.1, .int kv.2]) ρ σ = .ok (.next, ρ') σ := by
    intro l
    induction l with
    | nil => intro a ρ body _ _ hk hb; exact ⟨_, by rw [List.map_nil, forL]⟩
    | cons kv l ih =>
      intro a ρ body hp hl hk hb
      rw [List.pairwise_cons] at hp
      have h1 := hl kv (List.mem_cons_self ..)
      obtain ⟨ρ', h2⟩ := ih kv.1 [mv ms, .str kv.1, .tup [.str kv.1, .int kv.2]] body hp.2 (fun q hq => ⟨hp.1 q hq, (hl q (List.mem_cons_of_mem _ hq)).2⟩) rfl hb
      refine ⟨ρ', ?_⟩
      rw [List.map_cons, forL, hk]
      simp only [callD, runFn, List.length_cons, List.length_nil, Nat.reduceAdd, Nat.reduceSub, if_true, Nat.sub_self, Nat.sub_zero, List.replicate_zero, List.replicate_succ, List.replicate, List.append_nil, List.nil_append, List.cons_append, e_const, e_loc, e_and, e_or, e_bin, e_not, e_neg, e_cmp, e_tup, e_lst, e_edict, e_idx, e_comp, e_call, e_bi, e_meth, e_nil, e_cons, e_and1, e_and2, e_or1, e_or2, x_assign, x_setitem, x_expr, x_ret, x_ite, x_for, x_nil, x_cons, Bool.false_eq_true, if_false, items_tup, items_lst, items_rng, items_dct, lkV_tup, lkV_lst, lkV_rng, lkV_dct, lockV_tup, lockV_lst, lockV_rng, lockV_dct, unlk_ok, box_0, box_1, val_list, val_dict, obj_list, obj_dict, Nat.pred_zero, Nat.pred_succ, Nat.pred, Option.map_some, Bool.not_true, Bool.not_false, List.take_left, List.take_length, bind_ok, k_bin1, k_bin2, k_not, k_neg, k_cmp1, k_cmp2, k_tup, k_lst, k_idx1, k_idx2, k_comp1, k_compI, k_comp2, k_call, k_bi, k_meth1, k_methI, k_meth2, k_meth3, k_cons1, k_cons2, k_and, k_and_t, k_and_f, k_or, k_or_t, k_or_f, k_assign, k_set1, k_set2, k_set3, k_set4, k_expr, k_ret, k_if, k_if_t, k_if_f, k_for, k_forI, k_seq, k_seq_n, k_seq_r, List.getElem?_cons_zero, List.getElem?_cons_succ, List.set_cons_zero, List.set_cons_succ, fin_v, fin_f0, fin_f1, okB_some, truth_bool, constP_int, constP_str, constP_bool, constP_none, add_ii, sub_ii, lt_ii, gt_ii, le_ii, eq_ii, ne_ii, eq_ss, kill, List.foldl_cons, List.foldl_nil, setAll, bindT, tgtSlots, Flw.out]
      rw [hb kv a h1.1 h1.2]
      exact h2
  rw [callD_s fn_ism]
  have g0 : biP σ (.isinst .tuple) [mv ms] = some (.v (.bool true)) := rfl
  unfold mv at g0 ⊢
  simp only [runFn, List.length_cons, List.length_nil, Nat.reduceAdd, Nat.reduceSub, if_true, Nat.sub_self, Nat.sub_zero, List.replicate_zero, List.replicate_succ, List.replicate, List.append_nil, List.nil_append, List.cons_append, e_const, e_loc, e_and, e_or, e_bin, e_not, e_neg, e_cmp, e_tup, e_lst, e_edict, e_idx, e_comp, e_call, e_bi, e_meth, e_nil, e_cons, e_and1, e_and2, e_or1, e_or2, x_assign, x_setitem, x_expr, x_ret, x_ite, x_for, x_nil, x_cons, Bool.false_eq_true, if_false, items_tup, items_lst, items_rng, items_dct, lkV_tup, lkV_lst, lkV_rng, lkV_dct, lockV_tup, lockV_lst, lockV_rng, lockV_dct, unlk_ok, box_0, box_1, val_list, val_dict, obj_list, obj_dict, Nat.pred_zero, Nat.pred_succ, Nat.pred, Option.map_some, Bool.not_true, Bool.not_false, List.take_left, List.take_length, bind_ok, k_bin1, k_bin2, k_not, k_neg, k_cmp1, k_cmp2, k_tup, k_lst, k_idx1, k_idx2, k_comp1, k_compI, k_comp2, k_call, k_bi, k_meth1, k_methI, k_meth2, k_meth3, k_cons1, k_cons2, k_and, k_and_t, k_and_f, k_or, k_or_t, k_or_f, k_assign, k_set1, k_set2, k_set3, k_set4, k_expr, k_ret, k_if, k_if_t, k_if_f, k_for, k_forI, k_seq, k_seq_n, k_seq_r, List.getElem?_cons_zero, List.getElem?_cons_succ, List.set_cons_zero, List.set_cons_succ, fin_v, fin_f0, fin_f1, okB_some, truth_bool, constP_int, constP_str, constP_bool, constP_none, add_ii, sub_ii, lt_ii, gt_ii, le_ii, eq_ii, ne_ii, eq_ss, kill, List.foldl_cons, List.foldl_nil, setAll, bindT, tgtSlots, Flw.out, F_law_is_measure, g0]
  obtain ⟨ρ', h1⟩ := key ms ⟨#[]⟩ [mv ms, .str "", .undef] (execs { gl := G.const, cal := callD G (d + 1) }
                  (PSs.cons
                    (PS.ite
                      (PE.orE
                        (PEs.cons (PE.bi (BI.isinst Ty.tuple) (PEs.cons (PE.loc 2) PEs.nil)).notE
                          (PEs.cons
                            (PE.cmp CmpOp.NotEq (PE.bi BI.len (PEs.cons (PE.loc 2) PEs.nil)) (PE.const (Const.int 2)))
                            (PEs.cons
                              (PE.bi (BI.isinst Ty.str)
                                  (PEs.cons ((PE.loc 2).idx (PE.const (Const.int 0))) PEs.nil)).notE
                              (PEs.cons
                                (PE.call "_law_whole"
                                    (PEs.cons ((PE.loc 2).idx (PE.const (Const.int 1))) PEs.nil)).notE
                                PEs.nil)))))
                      (PSs.cons (PS.ret 0 (PE.const (Const.bool false))) PSs.nil) PSs.nil)
                    (PSs.cons
                      (PS.ite
                        (PE.orE
                          (PEs.cons (PE.cmp CmpOp.LtE ((PE.loc 2).idx (PE.const (Const.int 0))) (PE.loc 1))
                            (PEs.cons
                              (PE.cmp CmpOp.Eq ((PE.loc 2).idx (PE.const (Const.int 1))) (PE.const (Const.int 0)))
                              PEs.nil)))
                        (PSs.cons (PS.ret 0 (PE.const (Const.bool false))) PSs.nil) PSs.nil)
                      (PSs.cons (PS.assign 1 0 ((PE.loc 2).idx (PE.const (Const.int 0)))) PSs.nil)))) hm.1 (fun kv hkv => ⟨strLt_empty (hm.2 kv hkv).1, (hm.2 kv hkv).2⟩) rfl (by
    intro kv a h1 h2
    have g0 : getAt σ (.tup [.str kv.1, .int kv.2]) (.int 0) = some (.v (.str kv.1)) := rfl
    have g1 : getAt σ (.tup [.str kv.1, .int kv.2]) (.int 1) = some (.v (.int kv.2)) := rfl
    have g2 : biP σ .len [.tup [.str kv.1, .int kv.2]] = some (.v (.int 2)) := by rw [len_tup _ _ (by simp)]; rfl
    have g3 : biP σ (.isinst .tuple) [.tup [.str kv.1, .int kv.2]] = some (.v (.bool true)) := rfl
    have g4 : biP σ (.isinst .str) [.str kv.1] = some (.v (.bool true)) := rfl
    have g5 : (kv.2 == 0) = false := by simpa using h2
    have g6 : cmpP σ .LtE (.str kv.1) (.str a) = some false := by rw [le_ss, h1]; rfl
    simp only [runFn, List.length_cons, List.length_nil, Nat.reduceAdd, Nat.reduceSub, if_true, Nat.sub_self, Nat.sub_zero, List.replicate_zero, List.replicate_succ, List.replicate, List.append_nil, List.nil_append, List.cons_append, e_const, e_loc, e_and, e_or, e_bin, e_not, e_neg, e_cmp, e_tup, e_lst, e_edict, e_idx, e_comp, e_call, e_bi, e_meth, e_nil, e_cons, e_and1, e_and2, e_or1, e_or2, x_assign, x_setitem, x_expr, x_ret, x_ite, x_for, x_nil, x_cons, Bool.false_eq_true, if_false, items_tup, items_lst, items_rng, items_dct, lkV_tup, lkV_lst, lkV_rng, lkV_dct, lockV_tup, lockV_lst, lockV_rng, lockV_dct, unlk_ok, box_0, box_1, val_list, val_dict, obj_list, obj_dict, Nat.pred_zero, Nat.pred_succ, Nat.pred, Option.map_some, Bool.not_true, Bool.not_false, List.take_left, List.take_length, bind_ok, k_bin1, k_bin2, k_not, k_neg, k_cmp1, k_cmp2, k_tup, k_lst, k_idx1, k_idx2, k_comp1, k_compI, k_comp2, k_call, k_bi, k_meth1, k_methI, k_meth2, k_meth3, k_cons1, k_cons2, k_and, k_and_t, k_and_f, k_or, k_or_t, k_or_f, k_assign, k_set1, k_set2, k_set3, k_set4, k_expr, k_ret, k_if, k_if_t, k_if_f, k_for, k_forI, k_seq, k_seq_n, k_seq_r, List.getElem?_cons_zero, List.getElem?_cons_succ, List.set_cons_zero, List.set_cons_succ, fin_v, fin_f0, fin_f1, okB_some, truth_bool, constP_int, constP_str, constP_bool, constP_none, add_ii, sub_ii, lt_ii, gt_ii, le_ii, eq_ii, ne_ii, eq_ss, kill, List.foldl_cons, List.foldl_nil, setAll, bindT, tgtSlots, Flw.out, g0, g1, g2, g3, g4, Option.map_some, Bool.not_true, run_whole, g5, g6, show ((2 : Int) == 2) = true from rfl])
  unfold mv at h1
  rw [h1]
  simp only [runFn, List.length_cons, List.length_nil, Nat.reduceAdd, Nat.reduceSub, if_true, Nat.sub_self, Nat.sub_zero, List.replicate_zero, List.replicate_succ, List.replicate, List.append_nil, List.nil_append, List.cons_append, e_const, e_loc, e_and, e_or, e_bin, e_not, e_neg, e_cmp, e_tup, e_lst, e_edict, e_idx, e_comp, e_call, e_bi, e_meth, e_nil, e_cons, e_and1, e_and2, e_or1, e_or2, x_assign, x_setitem, x_expr, x_ret, x_ite, x_for, x_nil, x_cons, Bool.false_eq_true, if_false, items_tup, items_lst, items_rng, items_dct, lkV_tup, lkV_lst, lkV_rng, lkV_dct, lockV_tup, lockV_lst, lockV_rng, lockV_dct, unlk_ok, box_0, box_1, val_list, val_dict, obj_list, obj_dict, Nat.pred_zero, Nat.pred_succ, Nat.pred, Option.map_some, Bool.not_true, Bool.not_false, List.take_left, List.take_length, bind_ok, k_bin1, k_bin2, k_not, k_neg, k_cmp1, k_cmp2, k_tup, k_lst, k_idx1, k_idx2, k_comp1, k_compI, k_comp2, k_call, k_bi, k_meth1, k_methI, k_meth2, k_meth3, k_cons1, k_cons2, k_and, k_and_t, k_and_f, k_or, k_or_t, k_or_f, k_assign, k_set1, k_set2, k_set3, k_set4, k_expr, k_ret, k_if, k_if_t, k_if_f, k_for, k_forI, k_seq, k_seq_n, k_seq_r, List.getElem?_cons_zero, List.getElem?_cons_succ, List.set_cons_zero, List.set_cons_succ, fin_v, fin_f0, fin_f1, okB_some, truth_bool, constP_int, constP_str, constP_bool, constP_none, add_ii, sub_ii, lt_ii, gt_ii, le_ii, eq_ii, ne_ii, eq_ss, kill, List.foldl_cons, List.foldl_nil, setAll, bindT, tgtSlots, Flw.out, frz_bool]
end Mine

set_option autoImplicit false
set_option maxRecDepth 100000
set_option linter.unusedSimpArgs false
set_option linter.unusedVariables false
set_option exponentiation.threshold 2000
namespace Mine
open PySem
theorem fn_words : G.fn "_law_words" = some F_law_words := by rfl
theorem fmod_bd (x : Int) {n : Int} (h : 0 < n) : 0 ≤ x.fmod n ∧ x.fmod n < n := ⟨Int.fmod_nonneg_of_pos _ h, Int.fmod_lt_of_pos _ h⟩
theorem fmod_toNat (x : Int) {n : Nat} (h : 0 < n) : ∃ k : Nat, k < n ∧ x.fmod n = k := by
  have := fmod_bd x (n := n) (by omega)
  exact ⟨(x.fmod n).toNat, by omega, by omega⟩
theorem fdiv_bd {x : Int} (n : Int) (h : 0 < n) (hx : 0 ≤ x) : 0 ≤ x.fdiv n ∧ x.fdiv n ≤ x := by
  rw [Int.fdiv_eq_ediv_of_nonneg _ (by omega)]
  exact ⟨Int.ediv_nonneg hx (by omega), Int.ediv_le_self _ hx⟩

/-! ### texts -/
noncomputable def good (w : Str) : Prop := 1 ≤ w.length ∧ w.length ≤ 100
theorem good.ne {w : Str} (h : good w) : w ≠ (⟨#[]⟩ : Str) := by rintro rfl; exact absurd h.1 (by decide)
theorem app_len (x y : Str) : (x ++ y).length = x.length + y.length := by
  show (x.cps ++ y.cps).size = _; rw [Array.size_append]; rfl
theorem rep_len (x : Str) (n : Int) : (repStr x n).length = n.toNat * x.length := by
  have key : ∀ (k : Nat) (a : Array Nat), ((List.replicate k x.cps).foldl (· ++ ·) a).size = a.size + k * x.cps.size := by
    intro k
    induction k with
    | zero => intro a; simp
    | succ k ih => intro a; rw [List.replicate_succ, List.foldl_cons, ih, Array.size_append, Nat.succ_mul]; omega
  show ((List.replicate n.toNat x.cps).foldl (· ++ ·) #[]).size = _
  rw [key]; simp [Str.length]
noncomputable def abc : Str := "abcdefghijklmnopqrstuvwxyz"
theorem abc_size : abc.cps.size = 26 := by decide
noncomputable def signAt (k : Int) : Str := ⟨#[abc.cps.getD k.toNat 0]⟩
theorem signAt_len (k : Int) : (signAt k).length = 1 := rfl
theorem idx_abc (σ : AH) {k : Int} (h : 0 ≤ k ∧ k < 26) : getAt σ (.str "abcdefghijklmnopqrstuvwxyz") (.int k) = some (.v (.str (signAt k))) := by
  have h1 : k.toNat < abc.cps.size := by rw [abc_size]; omega
  show (if 0 ≤ k ∧ k ≤ 1000000 then (abc.cps[k.toNat]?).map fun c => Out.v (.str ⟨#[c]⟩) else none) = _
  rw [if_pos (by omega), getElem?_pos abc.cps k.toNat h1]
  simp [signAt, Array.getD, h1]

theorem app_ref {σ : AH} {r : Nat} {l : List PV} (h : σ[r]? = some (.list false l)) (hl : l.length ≤ 1000000) (v : PV) : bmP σ .append (.ref r) [v] = some (.none, σ.set r (.list false (l ++ [v]))) := by
  show (openL σ r).bind _ = _
  rw [show openL σ r = some l by unfold openL; rw [h]]
  exact if_pos (decide_eq_true hl)
theorem isTy_list {σ : AH} {i : Nat} {b : Bool} {l : List PV} (h : σ[i]? = some (.list b l)) : isTy σ .list (.ref i) = some true := by
  show isTyD .list (deref σ (.ref i)) = _
  rw [deref_l h]; rfl

theorem frz_snoc {σ : AH} {l : List PV} (hp : pureVs l = true) : frz σ.length (σ ++ [AObj.list false l]) 3 (.ref σ.length) = some (.lst l) :=
  (if_neg (Nat.lt_irrefl _)).trans (by show frzO _ (σ ++ [AObj.list false l])[σ.length]? = _; rw [get_snoc]; exact congrArg (Option.map PV.lst) (frzWs_pure _ _ hp))
theorem range_0 (σ : AH) {n : Int} (h : n.natAbs ≤ 1000000) : biP σ .range [.int n] = some (.v (.rng 0 n)) := if_pos h
theorem rng_get {n k : Nat} {x : PV} (h : (rngInts 0 n)[k]? = some x) : x = .int k ∧ k < n := by
  unfold rngInts at h
  rw [List.getElem?_map] at h
  obtain ⟨j, hj, rfl⟩ := Option.map_eq_some_iff.mp h
  have := List.getElem?_eq_some_iff.mp hj
  obtain ⟨h1, h2⟩ := this
  simp at h1 h2
  subst h2
  exact ⟨by simp, by omega⟩
theorem rng_len (n : Nat) : (rngInts 0 n).length = n := by simp [rngInts]

theorem run_words (cell : Int) (many : Nat) (hm : many ≤ 1000) (d : Nat) (σ : AH) : ∃ ws : List Str, ws.length = many ∧ (∀ w ∈ ws, good w) ∧ callD G (d + 1) "_law_words" [.int cell, .int many] σ = .ok (.lst (ws.map .str)) σ := by
  have z8 : (8 : Int) ≠ 0 := by decide
  have z26 : (26 : Int) ≠ 0 := by decide
  have z4 : (4 : Int) ≠ 0 := by decide
  have z3 : (3 : Int) ≠ 0 := by decide
  have z9 : (9 : Int) ≠ 0 := by decide
  have z64 : (64 : Int) ≠ 0 := by decide
  have z1664 : (1664 : Int) ≠ 0 := by decide
  have b8 := fmod_bd cell (n := 8) (by decide)
  have zs : 1 + cell.fmod 8 ≠ 0 := by omega
  have bp := fmod_bd (cell.fdiv 8) (n := 1 + cell.fmod 8) (by omega)
  have b26 := fmod_bd (cell.fdiv 64) (n := 26) (by decide)
  rw [callD_s fn_words]
  simp only [runFn, List.length_cons, List.length_nil, Nat.reduceAdd, Nat.reduceSub, if_true, Nat.sub_self, Nat.sub_zero, List.replicate_zero, List.replicate_succ, List.replicate, List.append_nil, List.nil_append, List.cons_append, e_const, e_loc, e_and, e_or, e_bin, e_not, e_neg, e_cmp, e_tup, e_lst, e_edict, e_idx, e_comp, e_call, e_bi, e_meth, e_nil, e_cons, e_and1, e_and2, e_or1, e_or2, x_assign, x_setitem, x_expr, x_ret, x_ite, x_for, x_nil, x_cons, Bool.false_eq_true, if_false, items_tup, items_lst, items_rng, items_dct, lkV_tup, lkV_lst, lkV_rng, lkV_dct, lockV_tup, lockV_lst, lockV_rng, lockV_dct, unlk_ok, box_0, box_1, val_list, val_dict, obj_list, obj_dict, Nat.pred_zero, Nat.pred_succ, Nat.pred, Option.map_some, Bool.not_true, Bool.not_false, List.take_left, List.take_length, bind_ok, k_bin1, k_bin2, k_not, k_neg, k_cmp1, k_cmp2, k_tup, k_lst, k_idx1, k_idx2, k_comp1, k_compI, k_comp2, k_call, k_bi, k_meth1, k_methI, k_meth2, k_meth3, k_cons1, k_cons2, k_and, k_and_t, k_and_f, k_or, k_or_t, k_or_f, k_assign, k_set1, k_set2, k_set3, k_set4, k_expr, k_ret, k_if, k_if_t, k_if_f, k_for, k_forI, k_seq, k_seq_n, k_seq_r, List.getElem?_cons_zero, List.getElem?_cons_succ, List.set_cons_zero, List.set_cons_succ, fin_v, fin_f0, fin_f1, okB_some, truth_bool, constP_int, constP_str, constP_bool, constP_none, add_ii, sub_ii, lt_ii, gt_ii, le_ii, eq_ii, ne_ii, eq_ss, kill, List.foldl_cons, List.foldl_nil, setAll, bindT, tgtSlots, Flw.out, F_law_words, mod_ii _ _ _ z8, mod_ii _ _ _ zs, div_ii _ _ _ z8, div_ii _ _ _ z64, mod_ii _ _ _ z26, idx_abc _ b26, div_ii _ _ _ z3, mod_ii _ _ _ z4, range_0 _ (show (many : Int).natAbs ≤ 1000000 by omega)]
  generalize hsz : 1 + cell.fmod 8 = size at *
  generalize hpl : (cell.fdiv 8).fmod size = place at *
  generalize hba : signAt ((cell.fdiv 64).fmod 26) = base at *
  have lb : base.length = 1 := by rw [← hba]; rfl
  generalize hwy : (cell.fdiv 3).fmod 4 = way at *
  have step := forL_const (body := execs { gl := G.const, cal := callD G d } (.cons (.assign 9 0 (.idx (.loc 2) (.bin .Mod (.bin .Add (.bin .FloorDiv (.loc 0) (.const (.int 1664))) (.bin .Mult (.const (.int 5)) (.loc 8))) (.const (.int 26))))) (.cons (.assign 10 0 (.bin .Add (.bin .Add (.bin .Mult (.loc 5) (.loc 4)) (.loc 9)) (.bin .Mult (.loc 5) (.bin .Sub (.bin .Sub (.loc 3) (.const (.int 1))) (.loc 4))))) (.cons (.ite (.cmp .Eq (.loc 6) (.const (.int 0))) (.cons (.assign 10 0 (.bin .Add (.loc 9) (.bin .Mult (.loc 5) (.bin .Mod (.bin .Add (.bin .Mult (.const (.int 3)) (.loc 8)) (.bin .FloorDiv (.loc 0) (.const (.int 9)))) (.const (.int 8)))))) .nil) .nil) (.cons (.ite (.andE (.cons (.cmp .Eq (.loc 6) (.const (.int 1))) (.cons (.cmp .Lt (.loc 8) (.const (.int 8))) .nil))) (.cons (.assign 10 0 (.bin .Mult (.loc 5) (.bin .Add (.const (.int 1)) (.bin .Mod (.bin .Add (.bin .Mult (.const (.int 3)) (.loc 8)) (.bin .FloorDiv (.loc 0) (.const (.int 9)))) (.const (.int 8)))))) .nil) .nil) (.cons (.ite (.andE (.cons (.cmp .Eq (.loc 6) (.const (.int 1))) (.cons (.cmp .Gt (.loc 8) (.const (.int 7))) .nil))) (.cons (.assign 10 0 (.bin .Add (.idx (.loc 2) (.bin .Mod (.bin .Sub (.bin .Add (.bin .FloorDiv (.loc 0) (.const (.int 64))) (.loc 8)) (.const (.int 7))) (.const (.int 26)))) (.bin .Mult (.loc 5) (.bin .Mod (.loc 8) (.const (.int 8)))))) .nil) .nil) (.cons (.expr (.meth (.loc 7) .append (.cons (.loc 10) .nil))) .nil))))))) (t := .one 8) (ks := [8, 9, 10])
    (ρ0 := [.int cell, .int many, .str "abcdefghijklmnopqrstuvwxyz", .int size, .int place, .str base, .int way, .ref σ.length, .undef, .undef, .undef])
    (fun k σ' => ∃ ws : List Str, ws.length = k ∧ k ≤ many ∧ (∀ w ∈ ws, good w) ∧ σ' = σ ++ [.list false (ws.map .str)]) (rngInts 0 many)
    (ρ := [.int cell, .int many, .str "abcdefghijklmnopqrstuvwxyz", .int size, .int place, .str base, .int way, .ref σ.length, .undef, .undef, .undef]) (σ := σ ++ [.list false []]) ?_ rfl ⟨[], rfl, by omega, by simp, rfl⟩
  · obtain ⟨σ', h1, ws, h2, _, h3, rfl⟩ := step
    refine ⟨ws, by rw [h2, rng_len], h3, ?_⟩
    rw [h1]
    simp only [runFn, List.length_cons, List.length_nil, Nat.reduceAdd, Nat.reduceSub, if_true, Nat.sub_self, Nat.sub_zero, List.replicate_zero, List.replicate_succ, List.replicate, List.append_nil, List.nil_append, List.cons_append, e_const, e_loc, e_and, e_or, e_bin, e_not, e_neg, e_cmp, e_tup, e_lst, e_edict, e_idx, e_comp, e_call, e_bi, e_meth, e_nil, e_cons, e_and1, e_and2, e_or1, e_or2, x_assign, x_setitem, x_expr, x_ret, x_ite, x_for, x_nil, x_cons, Bool.false_eq_true, if_false, items_tup, items_lst, items_rng, items_dct, lkV_tup, lkV_lst, lkV_rng, lkV_dct, lockV_tup, lockV_lst, lockV_rng, lockV_dct, unlk_ok, box_0, box_1, val_list, val_dict, obj_list, obj_dict, Nat.pred_zero, Nat.pred_succ, Nat.pred, Option.map_some, Bool.not_true, Bool.not_false, List.take_left, List.take_length, bind_ok, k_bin1, k_bin2, k_not, k_neg, k_cmp1, k_cmp2, k_tup, k_lst, k_idx1, k_idx2, k_comp1, k_compI, k_comp2, k_call, k_bi, k_meth1, k_methI, k_meth2, k_meth3, k_cons1, k_cons2, k_and, k_and_t, k_and_f, k_or, k_or_t, k_or_f, k_assign, k_set1, k_set2, k_set3, k_set4, k_expr, k_ret, k_if, k_if_t, k_if_f, k_for, k_forI, k_seq, k_seq_n, k_seq_r, List.getElem?_cons_zero, List.getElem?_cons_succ, List.set_cons_zero, List.set_cons_succ, fin_v, fin_f0, fin_f1, okB_some, truth_bool, constP_int, constP_str, constP_bool, constP_none, add_ii, sub_ii, lt_ii, gt_ii, le_ii, eq_ii, ne_ii, eq_ss, kill, List.foldl_cons, List.foldl_nil, setAll, bindT, tgtSlots, Flw.out]
    have hp : pureVs (ws.map .str) = true := by rw [pureVs_iff]; intro v hv; obtain ⟨w, _, rfl⟩ := List.mem_map.mp hv; rfl
    have : frz σ.length (σ ++ [AObj.list false (ws.map .str)]) 3 (.ref σ.length) = some (.lst (ws.map .str)) := frz_snoc hp
    rw [this]
  · rintro k x σ' hx ⟨ws, rfl, hk, hg, rfl⟩
    obtain ⟨rfl, hkm⟩ := rng_get hx
    have hl : (ws.map PV.str).length ≤ 1000000 := by simp; omega
    have m5 : IntMulOk 5 (ws.length : Int) := mulOk_l (by decide) (by decide)
    have m3 : IntMulOk 3 (ws.length : Int) := mulOk_l (by decide) (by decide)
    have c26 := fmod_bd (cell.fdiv 1664 + 5 * (ws.length : Int)) (n := 26) (by decide)
    have c8 := fmod_bd (3 * (ws.length : Int) + cell.fdiv 9) (n := 8) (by decide)
    have c7 := fmod_bd (cell.fdiv 64 + (ws.length : Int) - 7) (n := 26) (by decide)
    have ck := fmod_bd (ws.length : Int) (n := 8) (by decide)
    generalize hs : signAt ((cell.fdiv 1664 + 5 * (ws.length : Int)).fmod 26) = sg at *
    have ls : sg.length = 1 := by rw [← hs]; rfl
    have hst : ∀ w : Str, good w → ∃ ws' : List Str, ws'.length = ws.length + 1 ∧ ws.length + 1 ≤ many ∧ (∀ w ∈ ws', good w) ∧ σ ++ [AObj.list false (ws.map PV.str ++ [.str w])] = σ ++ [.list false (ws'.map .str)] := fun w hw =>
      ⟨ws ++ [w], by simp, by omega, fun v hv => by rcases List.mem_append.mp hv with h | h; exact hg v h; rw [List.mem_singleton.mp h]; exact hw, by simp⟩
    have r1 := rep_len base place
    have r2 := rep_len base (size - 1 - place)
    have r3 := rep_len base ((3 * (ws.length : Int) + cell.fdiv 9).fmod 8)
    have r4 := rep_len base (1 + (3 * (ws.length : Int) + cell.fdiv 9).fmod 8)
    have r5 := rep_len base ((ws.length : Int).fmod 8)
    rw [lb, Nat.mul_one] at r1 r2 r3 r4 r5
    have q0 := idx_abc (σ ++ [AObj.list false (ws.map .str)]) c26
    rw [hs] at q0
    have q1 := mul_si (σ ++ [AObj.list false (ws.map .str)]) base place ⟨by omega, by omega, by omega⟩
    have q2 := mul_si (σ ++ [AObj.list false (ws.map .str)]) base (size - 1 - place) ⟨by omega, by omega, by omega⟩
    have q3 := mul_si (σ ++ [AObj.list false (ws.map .str)]) base ((3 * (ws.length : Int) + cell.fdiv 9).fmod 8) ⟨by omega, by omega, by omega⟩
    have q4 := mul_si (σ ++ [AObj.list false (ws.map .str)]) base (1 + (3 * (ws.length : Int) + cell.fdiv 9).fmod 8) ⟨by omega, by omega, by omega⟩
    have q5 := mul_si (σ ++ [AObj.list false (ws.map .str)]) base ((ws.length : Int).fmod 8) ⟨by omega, by omega, by omega⟩
    have l7 := signAt_len ((cell.fdiv 64 + (ws.length : Int) - 7).fmod 26)
    have a1 := add_ss (σ ++ [AObj.list false (ws.map .str)]) (repStr base place) sg (by omega)
    have a2 := add_ss (σ ++ [AObj.list false (ws.map .str)]) (repStr base place ++ sg) (repStr base (size - 1 - place)) (by rw [app_len]; omega)
    have a3 := add_ss (σ ++ [AObj.list false (ws.map .str)]) sg (repStr base ((3 * (ws.length : Int) + cell.fdiv 9).fmod 8)) (by omega)
    have a5 := add_ss (σ ++ [AObj.list false (ws.map .str)]) (signAt ((cell.fdiv 64 + (ws.length : Int) - 7).fmod 26)) (repStr base ((ws.length : Int).fmod 8)) (by omega)
    by_cases w0 : way = 0
    · subst w0
      refine ⟨_, [.int cell, .int many, .str "abcdefghijklmnopqrstuvwxyz", .int size, .int place, .str base, .int 0, .ref σ.length, .int ws.length, .str sg, .str (sg ++ repStr base ((3 * (ws.length : Int) + cell.fdiv 9).fmod 8))], _, rfl, ?_, rfl, hst (sg ++ repStr base ((3 * (ws.length : Int) + cell.fdiv 9).fmod 8)) ⟨by rw [app_len]; omega, by rw [app_len]; omega⟩⟩
      simp only [runFn, List.length_cons, List.length_nil, Nat.reduceAdd, Nat.reduceSub, if_true, Nat.sub_self, Nat.sub_zero, List.replicate_zero, List.replicate_succ, List.replicate, List.append_nil, List.nil_append, List.cons_append, e_const, e_loc, e_and, e_or, e_bin, e_not, e_neg, e_cmp, e_tup, e_lst, e_edict, e_idx, e_comp, e_call, e_bi, e_meth, e_nil, e_cons, e_and1, e_and2, e_or1, e_or2, x_assign, x_setitem, x_expr, x_ret, x_ite, x_for, x_nil, x_cons, Bool.false_eq_true, if_false, items_tup, items_lst, items_rng, items_dct, lkV_tup, lkV_lst, lkV_rng, lkV_dct, lockV_tup, lockV_lst, lockV_rng, lockV_dct, unlk_ok, box_0, box_1, val_list, val_dict, obj_list, obj_dict, Nat.pred_zero, Nat.pred_succ, Nat.pred, Option.map_some, Bool.not_true, Bool.not_false, List.take_left, List.take_length, bind_ok, k_bin1, k_bin2, k_not, k_neg, k_cmp1, k_cmp2, k_tup, k_lst, k_idx1, k_idx2, k_comp1, k_compI, k_comp2, k_call, k_bi, k_meth1, k_methI, k_meth2, k_meth3, k_cons1, k_cons2, k_and, k_and_t, k_and_f, k_or, k_or_t, k_or_f, k_assign, k_set1, k_set2, k_set3, k_set4, k_expr, k_ret, k_if, k_if_t, k_if_f, k_for, k_forI, k_seq, k_seq_n, k_seq_r, List.getElem?_cons_zero, List.getElem?_cons_succ, List.set_cons_zero, List.set_cons_succ, fin_v, fin_f0, fin_f1, okB_some, truth_bool, constP_int, constP_str, constP_bool, constP_none, add_ii, sub_ii, lt_ii, gt_ii, le_ii, eq_ii, ne_ii, eq_ss, kill, List.foldl_cons, List.foldl_nil, setAll, bindT, tgtSlots, Flw.out, div_ii _ _ _ z1664, mul_ii _ _ _ m5, mul_ii _ _ _ m3, mod_ii _ _ _ z26, mod_ii _ _ _ z8, div_ii _ _ _ z9, div_ii _ _ _ z64, q0, q1, q2, q3, a1, a2, a3, show ((0 : Int) == 0) = true from rfl, show ((0 : Int) == 1) = false from rfl, isTy_list get_snoc, BM.ty, app_ref get_snoc hl, set_snoc]
    · have w0' : (way == 0) = false := by simpa using w0
      by_cases w1 : way = 1
      · subst w1
        by_cases k8 : (ws.length : Int) < 8
        · have k8' : decide ((ws.length : Int) < 8) = true := by simpa using k8
          have k7' : decide ((ws.length : Int) > 7) = false := by simp; omega
          refine ⟨_, [.int cell, .int many, .str "abcdefghijklmnopqrstuvwxyz", .int size, .int place, .str base, .int 1, .ref σ.length, .int ws.length, .str sg, .str (repStr base (1 + (3 * (ws.length : Int) + cell.fdiv 9).fmod 8))], _, rfl, ?_, rfl, hst (repStr base (1 + (3 * (ws.length : Int) + cell.fdiv 9).fmod 8)) ⟨by omega, by omega⟩⟩
          simp only [runFn, List.length_cons, List.length_nil, Nat.reduceAdd, Nat.reduceSub, if_true, Nat.sub_self, Nat.sub_zero, List.replicate_zero, List.replicate_succ, List.replicate, List.append_nil, List.nil_append, List.cons_append, e_const, e_loc, e_and, e_or, e_bin, e_not, e_neg, e_cmp, e_tup, e_lst, e_edict, e_idx, e_comp, e_call, e_bi, e_meth, e_nil, e_cons, e_and1, e_and2, e_or1, e_or2, x_assign, x_setitem, x_expr, x_ret, x_ite, x_for, x_nil, x_cons, Bool.false_eq_true, if_false, items_tup, items_lst, items_rng, items_dct, lkV_tup, lkV_lst, lkV_rng, lkV_dct, lockV_tup, lockV_lst, lockV_rng, lockV_dct, unlk_ok, box_0, box_1, val_list, val_dict, obj_list, obj_dict, Nat.pred_zero, Nat.pred_succ, Nat.pred, Option.map_some, Bool.not_true, Bool.not_false, List.take_left, List.take_length, bind_ok, k_bin1, k_bin2, k_not, k_neg, k_cmp1, k_cmp2, k_tup, k_lst, k_idx1, k_idx2, k_comp1, k_compI, k_comp2, k_call, k_bi, k_meth1, k_methI, k_meth2, k_meth3, k_cons1, k_cons2, k_and, k_and_t, k_and_f, k_or, k_or_t, k_or_f, k_assign, k_set1, k_set2, k_set3, k_set4, k_expr, k_ret, k_if, k_if_t, k_if_f, k_for, k_forI, k_seq, k_seq_n, k_seq_r, List.getElem?_cons_zero, List.getElem?_cons_succ, List.set_cons_zero, List.set_cons_succ, fin_v, fin_f0, fin_f1, okB_some, truth_bool, constP_int, constP_str, constP_bool, constP_none, add_ii, sub_ii, lt_ii, gt_ii, le_ii, eq_ii, ne_ii, eq_ss, kill, List.foldl_cons, List.foldl_nil, setAll, bindT, tgtSlots, Flw.out, div_ii _ _ _ z1664, mul_ii _ _ _ m5, mul_ii _ _ _ m3, mod_ii _ _ _ z26, mod_ii _ _ _ z8, div_ii _ _ _ z9, div_ii _ _ _ z64, q0, q1, q2, q4, a1, a2, show ((1 : Int) == 0) = false from rfl, show ((1 : Int) == 1) = true from rfl, k8', k7', isTy_list get_snoc, BM.ty, app_ref get_snoc hl, set_snoc]
        · have k8' : decide ((ws.length : Int) < 8) = false := by simp; omega
          have k7' : decide ((ws.length : Int) > 7) = true := by simp; omega
          refine ⟨_, [.int cell, .int many, .str "abcdefghijklmnopqrstuvwxyz", .int size, .int place, .str base, .int 1, .ref σ.length, .int ws.length, .str sg, .str (signAt ((cell.fdiv 64 + (ws.length : Int) - 7).fmod 26) ++ repStr base ((ws.length : Int).fmod 8))], _, rfl, ?_, rfl, hst (signAt ((cell.fdiv 64 + (ws.length : Int) - 7).fmod 26) ++ repStr base ((ws.length : Int).fmod 8)) ⟨by rw [app_len]; omega, by rw [app_len]; omega⟩⟩
          simp only [runFn, List.length_cons, List.length_nil, Nat.reduceAdd, Nat.reduceSub, if_true, Nat.sub_self, Nat.sub_zero, List.replicate_zero, List.replicate_succ, List.replicate, List.append_nil, List.nil_append, List.cons_append, e_const, e_loc, e_and, e_or, e_bin, e_not, e_neg, e_cmp, e_tup, e_lst, e_edict, e_idx, e_comp, e_call, e_bi, e_meth, e_nil, e_cons, e_and1, e_and2, e_or1, e_or2, x_assign, x_setitem, x_expr, x_ret, x_ite, x_for, x_nil, x_cons, Bool.false_eq_true, if_false, items_tup, items_lst, items_rng, items_dct, lkV_tup, lkV_lst, lkV_rng, lkV_dct, lockV_tup, lockV_lst, lockV_rng, lockV_dct, unlk_ok, box_0, box_1, val_list, val_dict, obj_list, obj_dict, Nat.pred_zero, Nat.pred_succ, Nat.pred, Option.map_some, Bool.not_true, Bool.not_false, List.take_left, List.take_length, bind_ok, k_bin1, k_bin2, k_not, k_neg, k_cmp1, k_cmp2, k_tup, k_lst, k_idx1, k_idx2, k_comp1, k_compI, k_comp2, k_call, k_bi, k_meth1, k_methI, k_meth2, k_meth3, k_cons1, k_cons2, k_and, k_and_t, k_and_f, k_or, k_or_t, k_or_f, k_assign, k_set1, k_set2, k_set3, k_set4, k_expr, k_ret, k_if, k_if_t, k_if_f, k_for, k_forI, k_seq, k_seq_n, k_seq_r, List.getElem?_cons_zero, List.getElem?_cons_succ, List.set_cons_zero, List.set_cons_succ, fin_v, fin_f0, fin_f1, okB_some, truth_bool, constP_int, constP_str, constP_bool, constP_none, add_ii, sub_ii, lt_ii, gt_ii, le_ii, eq_ii, ne_ii, eq_ss, kill, List.foldl_cons, List.foldl_nil, setAll, bindT, tgtSlots, Flw.out, div_ii _ _ _ z1664, mul_ii _ _ _ m5, mul_ii _ _ _ m3, mod_ii _ _ _ z26, mod_ii _ _ _ z8, div_ii _ _ _ z9, div_ii _ _ _ z64, q0, q1, q2, q5, a1, a2, a5, idx_abc _ c7, show ((1 : Int) == 0) = false from rfl, show ((1 : Int) == 1) = true from rfl, k8', k7', isTy_list get_snoc, BM.ty, app_ref get_snoc hl, set_snoc]
      · have w1' : (way == 1) = false := by simpa using w1
        refine ⟨_, [.int cell, .int many, .str "abcdefghijklmnopqrstuvwxyz", .int size, .int place, .str base, .int way, .ref σ.length, .int ws.length, .str sg, .str (repStr base place ++ sg ++ repStr base (size - 1 - place))], _, rfl, ?_, rfl, hst (repStr base place ++ sg ++ repStr base (size - 1 - place)) ⟨by rw [app_len, app_len]; omega, by rw [app_len, app_len]; omega⟩⟩
        simp only [runFn, List.length_cons, List.length_nil, Nat.reduceAdd, Nat.reduceSub, if_true, Nat.sub_self, Nat.sub_zero, List.replicate_zero, List.replicate_succ, List.replicate, List.append_nil, List.nil_append, List.cons_append, e_const, e_loc, e_and, e_or, e_bin, e_not, e_neg, e_cmp, e_tup, e_lst, e_edict, e_idx, e_comp, e_call, e_bi, e_meth, e_nil, e_cons, e_and1, e_and2, e_or1, e_or2, x_assign, x_setitem, x_expr, x_ret, x_ite, x_for, x_nil, x_cons, Bool.false_eq_true, if_false, items_tup, items_lst, items_rng, items_dct, lkV_tup, lkV_lst, lkV_rng, lkV_dct, lockV_tup, lockV_lst, lockV_rng, lockV_dct, unlk_ok, box_0, box_1, val_list, val_dict, obj_list, obj_dict, Nat.pred_zero, Nat.pred_succ, Nat.pred, Option.map_some, Bool.not_true, Bool.not_false, List.take_left, List.take_length, bind_ok, k_bin1, k_bin2, k_not, k_neg, k_cmp1, k_cmp2, k_tup, k_lst, k_idx1, k_idx2, k_comp1, k_compI, k_comp2, k_call, k_bi, k_meth1, k_methI, k_meth2, k_meth3, k_cons1, k_cons2, k_and, k_and_t, k_and_f, k_or, k_or_t, k_or_f, k_assign, k_set1, k_set2, k_set3, k_set4, k_expr, k_ret, k_if, k_if_t, k_if_f, k_for, k_forI, k_seq, k_seq_n, k_seq_r, List.getElem?_cons_zero, List.getElem?_cons_succ, List.set_cons_zero, List.set_cons_succ, fin_v, fin_f0, fin_f1, okB_some, truth_bool, constP_int, constP_str, constP_bool, constP_none, add_ii, sub_ii, lt_ii, gt_ii, le_ii, eq_ii, ne_ii, eq_ss, kill, List.foldl_cons, List.foldl_nil, setAll, bindT, tgtSlots, Flw.out, div_ii _ _ _ z1664, mul_ii _ _ _ m5, mul_ii _ _ _ m3, mod_ii _ _ _ z26, mod_ii _ _ _ z8, div_ii _ _ _ z9, div_ii _ _ _ z64, q0, q1, q2, a1, a2, w0', w1', isTy_list get_snoc, BM.ty, app_ref get_snoc hl, set_snoc]
end Mine

set_option autoImplicit false
set_option maxRecDepth 100000
set_option linter.unusedSimpArgs false
set_option linter.unusedVariables false
set_option exponentiation.threshold 2000
namespace Mine
open PySem
theorem fn_lpower : G.fn "_law_power" = some F_law_power := by rfl
theorem fn_letters : G.fn "_law_letters" = some F_law_letters := by rfl
theorem fn_measure : G.fn "_law_measure" = some F_law_measure := by rfl
noncomputable def two {α : Type} (x : Int) (a b : α) : α := if x.fmod 2 = 0 then a else b
theorem pick2 (σ : AH) (x : Int) (a b : PV) : getAt σ (.lst [a, b]) (.int (x.fmod 2)) = some (.v (two x a b)) := by
  have := fmod_bd x (n := 2) (by decide)
  unfold two
  by_cases h : x.fmod 2 = 0
  · rw [h]; rfl
  · have : x.fmod 2 = 1 := by omega
    rw [this]; rfl
theorem two_int (x a b : Int) : two x (PV.int a) (PV.int b) = .int (two x a b) := by unfold two; split <;> rfl
theorem two_str (x : Int) (a b : Str) : two x (PV.str a) (PV.str b) = .str (two x a b) := by unfold two; split <;> rfl
theorem two_cases {α : Type} {P : α → Prop} (x : Int) {a b : α} (ha : P a) (hb : P b) : P (two x a b) := by unfold two; split <;> assumption
theorem str_len {i : Int} (h : i.natAbs < 10 ^ 40) : (Str.ofString (toString i)).length ≤ 41 := by
  have e := int_text_length_le10 (k := 40) (by decide) h
  rw [Str.ofString_eq_toList]
  show ((toString i).toList.map Char.toNat).toArray.size ≤ 41
  rw [List.size_toArray, List.length_map, String.length_toList]
  exact e
theorem str_int (σ : AH) {i : Int} (h : i.natAbs < 10 ^ 40) : biP σ .str [.int i] = some (.v (.str (Str.ofString (toString i)))) := by
  exact if_pos h
theorem frz_list {σ : AH} {l : List PV} (hp : pureVs l = true) : frz σ.length (σ ++ [AObj.list false l]) 3 (.ref σ.length) = some (.lst l) := frz_snoc hp
theorem pure_strs (ws : List Str) : pureVs (ws.map .str) = true := by
  rw [pureVs_iff]; intro v hv; obtain ⟨w, _, rfl⟩ := List.mem_map.mp hv; rfl
noncomputable def okW (w : Str) : Prop := 1 ≤ w.length ∧ w.length ≤ 1000
theorem okW.ne {w : Str} (h : okW w) : w ≠ (⟨#[]⟩ : Str) := by rintro rfl; exact absurd h.1 (by decide)

theorem run_letters (cell : Int) (many : Nat) (hm : many ≤ 1000) (d : Nat) (σ : AH) : ∃ ws : List Str, ws.length = 2 * many ∧ (∀ w ∈ ws, okW w) ∧ callD G (d + 2) "_law_letters" [.int cell, .int many] σ = .ok (.lst (ws.map .str)) σ := by
  obtain ⟨wd, hw1, hw2, hw3⟩ := run_words cell 26 (by decide) d σ
  rw [callD_s fn_letters]
  simp only [runFn, List.length_cons, List.length_nil, Nat.reduceAdd, Nat.reduceSub, if_true, Nat.sub_self, Nat.sub_zero, List.replicate_zero, List.replicate_succ, List.replicate, List.append_nil, List.nil_append, List.cons_append, e_const, e_loc, e_and, e_or, e_bin, e_not, e_neg, e_cmp, e_tup, e_lst, e_edict, e_idx, e_comp, e_call, e_bi, e_meth, e_nil, e_cons, e_and1, e_and2, e_or1, e_or2, x_assign, x_setitem, x_expr, x_ret, x_ite, x_for, x_nil, x_cons, Bool.false_eq_true, if_false, items_tup, items_lst, items_rng, items_dct, lkV_tup, lkV_lst, lkV_rng, lkV_dct, lockV_tup, lockV_lst, lockV_rng, lockV_dct, unlk_ok, box_0, box_1, val_list, val_dict, obj_list, obj_dict, Nat.pred_zero, Nat.pred_succ, Nat.pred, Option.map_some, Bool.not_true, Bool.not_false, List.take_left, List.take_length, bind_ok, k_bin1, k_bin2, k_not, k_neg, k_cmp1, k_cmp2, k_tup, k_lst, k_idx1, k_idx2, k_comp1, k_compI, k_comp2, k_call, k_bi, k_meth1, k_methI, k_meth2, k_meth3, k_cons1, k_cons2, k_and, k_and_t, k_and_f, k_or, k_or_t, k_or_f, k_assign, k_set1, k_set2, k_set3, k_set4, k_expr, k_ret, k_if, k_if_t, k_if_f, k_for, k_forI, k_seq, k_seq_n, k_seq_r, List.getElem?_cons_zero, List.getElem?_cons_succ, List.set_cons_zero, List.set_cons_succ, fin_v, fin_f0, fin_f1, okB_some, truth_bool, constP_int, constP_str, constP_bool, constP_none, add_ii, sub_ii, lt_ii, gt_ii, le_ii, eq_ii, ne_ii, eq_ss, kill, List.foldl_cons, List.foldl_nil, setAll, bindT, tgtSlots, Flw.out, F_law_letters, range_0 _ (show (many : Int).natAbs ≤ 1000000 by omega)]
  rw [show callD G (d + 1) "_law_words" [.int cell, .int 26] σ = .ok (.lst (wd.map .str)) σ from hw3]
  simp only [runFn, List.length_cons, List.length_nil, Nat.reduceAdd, Nat.reduceSub, if_true, Nat.sub_self, Nat.sub_zero, List.replicate_zero, List.replicate_succ, List.replicate, List.append_nil, List.nil_append, List.cons_append, e_const, e_loc, e_and, e_or, e_bin, e_not, e_neg, e_cmp, e_tup, e_lst, e_edict, e_idx, e_comp, e_call, e_bi, e_meth, e_nil, e_cons, e_and1, e_and2, e_or1, e_or2, x_assign, x_setitem, x_expr, x_ret, x_ite, x_for, x_nil, x_cons, Bool.false_eq_true, if_false, items_tup, items_lst, items_rng, items_dct, lkV_tup, lkV_lst, lkV_rng, lkV_dct, lockV_tup, lockV_lst, lockV_rng, lockV_dct, unlk_ok, box_0, box_1, val_list, val_dict, obj_list, obj_dict, Nat.pred_zero, Nat.pred_succ, Nat.pred, Option.map_some, Bool.not_true, Bool.not_false, List.take_left, List.take_length, bind_ok, k_bin1, k_bin2, k_not, k_neg, k_cmp1, k_cmp2, k_tup, k_lst, k_idx1, k_idx2, k_comp1, k_compI, k_comp2, k_call, k_bi, k_meth1, k_methI, k_meth2, k_meth3, k_cons1, k_cons2, k_and, k_and_t, k_and_f, k_or, k_or_t, k_or_f, k_assign, k_set1, k_set2, k_set3, k_set4, k_expr, k_ret, k_if, k_if_t, k_if_f, k_for, k_forI, k_seq, k_seq_n, k_seq_r, List.getElem?_cons_zero, List.getElem?_cons_succ, List.set_cons_zero, List.set_cons_succ, fin_v, fin_f0, fin_f1, okB_some, truth_bool, constP_int, constP_str, constP_bool, constP_none, add_ii, sub_ii, lt_ii, gt_ii, le_ii, eq_ii, ne_ii, eq_ss, kill, List.foldl_cons, List.foldl_nil, setAll, bindT, tgtSlots, Flw.out, range_0 _ (show (many : Int).natAbs ≤ 1000000 by omega)]
  have step := forL_const (body := execs { gl := G.const, cal := callD G (d + 1) } (.cons (.expr (.meth (.loc 3) .append (.cons (.bin .Add (.idx (.lst (.cons (.const (.str "")) (.cons (.const (.str "=")) .nil))) (.bin .Mod (.loc 4) (.const (.int 2)))) (.idx (.loc 2) (.bin .Mod (.loc 4) (.const (.int 26))))) .nil))) (.cons (.assign 5 0 (.idx (.lst (.cons (.loc 4) (.cons (.bin .Add (.bin .Mult (.loc 4) (.bin .Pow (.const (.int 10)) (.const (.int 9)))) (.bin .Mod (.loc 0) (.bin .Pow (.const (.int 10)) (.const (.int 9))))) .nil))) (.bin .Mod (.loc 0) (.const (.int 2))))) (.cons (.expr (.meth (.loc 3) .append (.cons (.bin .Add (.idx (.lst (.cons (.const (.str "0")) (.cons (.const (.str "?")) .nil))) (.bin .Mod (.loc 4) (.const (.int 2)))) (.bi .str (.cons (.loc 5) .nil))) .nil))) .nil)))) (t := .one 4) (ks := [4, 5])
    (ρ0 := [.int cell, .int many, .lst (wd.map .str), .ref σ.length, .undef, .undef])
    (fun k σ' => ∃ ws : List Str, ws.length = 2 * k ∧ k ≤ many ∧ (∀ w ∈ ws, okW w) ∧ σ' = σ ++ [.list false (ws.map .str)]) (rngInts 0 many)
    (ρ := [.int cell, .int many, .lst (wd.map .str), .ref σ.length, .undef, .undef]) (σ := σ ++ [.list false []]) ?_ rfl ⟨[], rfl, by omega, by simp, rfl⟩
  · obtain ⟨σ', h1, ws, h2, _, h3, rfl⟩ := step
    refine ⟨ws, by rw [h2, rng_len], h3, ?_⟩
    rw [h1]
    simp only [runFn, List.length_cons, List.length_nil, Nat.reduceAdd, Nat.reduceSub, if_true, Nat.sub_self, Nat.sub_zero, List.replicate_zero, List.replicate_succ, List.replicate, List.append_nil, List.nil_append, List.cons_append, e_const, e_loc, e_and, e_or, e_bin, e_not, e_neg, e_cmp, e_tup, e_lst, e_edict, e_idx, e_comp, e_call, e_bi, e_meth, e_nil, e_cons, e_and1, e_and2, e_or1, e_or2, x_assign, x_setitem, x_expr, x_ret, x_ite, x_for, x_nil, x_cons, Bool.false_eq_true, if_false, items_tup, items_lst, items_rng, items_dct, lkV_tup, lkV_lst, lkV_rng, lkV_dct, lockV_tup, lockV_lst, lockV_rng, lockV_dct, unlk_ok, box_0, box_1, val_list, val_dict, obj_list, obj_dict, Nat.pred_zero, Nat.pred_succ, Nat.pred, Option.map_some, Bool.not_true, Bool.not_false, List.take_left, List.take_length, bind_ok, k_bin1, k_bin2, k_not, k_neg, k_cmp1, k_cmp2, k_tup, k_lst, k_idx1, k_idx2, k_comp1, k_compI, k_comp2, k_call, k_bi, k_meth1, k_methI, k_meth2, k_meth3, k_cons1, k_cons2, k_and, k_and_t, k_and_f, k_or, k_or_t, k_or_f, k_assign, k_set1, k_set2, k_set3, k_set4, k_expr, k_ret, k_if, k_if_t, k_if_f, k_for, k_forI, k_seq, k_seq_n, k_seq_r, List.getElem?_cons_zero, List.getElem?_cons_succ, List.set_cons_zero, List.set_cons_succ, fin_v, fin_f0, fin_f1, okB_some, truth_bool, constP_int, constP_str, constP_bool, constP_none, add_ii, sub_ii, lt_ii, gt_ii, le_ii, eq_ii, ne_ii, eq_ss, kill, List.foldl_cons, List.foldl_nil, setAll, bindT, tgtSlots, Flw.out]
    rw [frz_list (pure_strs ws)]
  · rintro k x σ' hx ⟨ws, hwl, hk, hg, rfl⟩
    obtain ⟨rfl, hkm⟩ := rng_get hx
    have hl : (ws.map PV.str).length ≤ 1000000 := by simp; omega
    obtain ⟨j, hj, ej⟩ := fmod_toNat (k : Int) (n := 26) (by decide)
    have hj' : j < wd.length := by omega
    obtain ⟨w0, hw0⟩ : ∃ w0, wd[j]? = some w0 := ⟨wd[j], by simp [hj']⟩
    have hgw := hw2 w0 (List.mem_of_getElem? hw0)
    have hget : (wd.map PV.str)[j]? = some (.str w0) := by simp [hw0]
    have p9 := pow_ii (σ ++ [AObj.list false (ws.map .str)]) 10 9 (by decide)
    have p9' : (10 : Int) ^ (9 : Int).toNat = 1000000000 := by decide +kernel
    rw [p9'] at p9
    have z9 : (1000000000 : Int) ≠ 0 := by decide
    have z2 : (2 : Int) ≠ 0 := by decide
    have z26 : (26 : Int) ≠ 0 := by decide
    have b9 := fmod_bd cell (n := 1000000000) (by decide)
    have mk : IntMulOk (k : Int) 1000000000 := mulOk_r (by decide) (by decide)
    generalize hN : two cell (k : Int) ((k : Int) * 1000000000 + cell.fmod 1000000000) = N at *
    have hNb : N.natAbs < 10 ^ 40 := by
      rw [← hN]; exact two_cases cell (P := fun x : Int => x.natAbs < 10 ^ 40) (by omega) (by omega)
    have hNl := str_len hNb
    generalize hT : Str.ofString (toString N) = T at *
    have l1 : (two (k : Int) (("" : String) : Str) (("=" : String) : Str)).length ≤ 1 := two_cases (k : Int) (P := fun x : Str => x.length ≤ 1) (by decide) (by decide)
    have l2 : (two (k : Int) (("0" : String) : Str) (("?" : String) : Str)).length = 1 := two_cases (k : Int) (P := fun x : Str => x.length = 1) (by decide) (by decide)
    generalize hA : two (k : Int) (("" : String) : Str) (("=" : String) : Str) = A at *
    generalize hB : two (k : Int) (("0" : String) : Str) (("?" : String) : Str) = B at *
    have g1 : good w0 := hgw
    have s1 := add_ss (σ ++ [AObj.list false (ws.map .str)]) A w0 (by have := g1.2; omega)
    refine ⟨_, [.int cell, .int many, .lst (wd.map .str), .ref σ.length, .int k, .int N], σ ++ [AObj.list false (ws.map .str ++ [.str (A ++ w0)] ++ [.str (B ++ T)])], rfl, ?_, rfl, ⟨ws ++ [A ++ w0] ++ [B ++ T], by simp; omega, by omega, ?_, by simp⟩⟩
    · have i1 := idx_lst (σ ++ [AObj.list false (ws.map .str)]) (wd.map .str) j (.str w0) (by omega) hget
      rw [← ej] at i1
      have i1' : getAt (σ ++ [AObj.list false (ws.map .str)]) (.lst (wd.map .str)) (.int ((k : Int).fmod 26)) = some (.v (.str w0)) := i1
      have s2 := fun σ' => add_ss σ' B T (by omega)
      have t1 := fun σ' => str_int σ' hNb
      rw [hT] at t1
      have p9'' := pow_ii (σ ++ [AObj.list false (ws.map .str ++ [.str (A ++ w0)])]) 10 9 (by decide)
      rw [p9'] at p9''
      simp only [runFn, List.length_cons, List.length_nil, Nat.reduceAdd, Nat.reduceSub, if_true, Nat.sub_self, Nat.sub_zero, List.replicate_zero, List.replicate_succ, List.replicate, List.append_nil, List.nil_append, List.cons_append, e_const, e_loc, e_and, e_or, e_bin, e_not, e_neg, e_cmp, e_tup, e_lst, e_edict, e_idx, e_comp, e_call, e_bi, e_meth, e_nil, e_cons, e_and1, e_and2, e_or1, e_or2, x_assign, x_setitem, x_expr, x_ret, x_ite, x_for, x_nil, x_cons, Bool.false_eq_true, if_false, items_tup, items_lst, items_rng, items_dct, lkV_tup, lkV_lst, lkV_rng, lkV_dct, lockV_tup, lockV_lst, lockV_rng, lockV_dct, unlk_ok, box_0, box_1, val_list, val_dict, obj_list, obj_dict, Nat.pred_zero, Nat.pred_succ, Nat.pred, Option.map_some, Bool.not_true, Bool.not_false, List.take_left, List.take_length, bind_ok, k_bin1, k_bin2, k_not, k_neg, k_cmp1, k_cmp2, k_tup, k_lst, k_idx1, k_idx2, k_comp1, k_compI, k_comp2, k_call, k_bi, k_meth1, k_methI, k_meth2, k_meth3, k_cons1, k_cons2, k_and, k_and_t, k_and_f, k_or, k_or_t, k_or_f, k_assign, k_set1, k_set2, k_set3, k_set4, k_expr, k_ret, k_if, k_if_t, k_if_f, k_for, k_forI, k_seq, k_seq_n, k_seq_r, List.getElem?_cons_zero, List.getElem?_cons_succ, List.set_cons_zero, List.set_cons_succ, fin_v, fin_f0, fin_f1, okB_some, truth_bool, constP_int, constP_str, constP_bool, constP_none, add_ii, sub_ii, lt_ii, gt_ii, le_ii, eq_ii, ne_ii, eq_ss, kill, List.foldl_cons, List.foldl_nil, setAll, bindT, tgtSlots, Flw.out, mod_ii _ _ _ z2, mod_ii _ _ _ z26, pick2, two_str, two_int, hA, hB, hN, i1', s1, s2, t1, p9'', mul_ii _ _ _ mk, mod_ii _ _ _ z9, isTy_list get_snoc, BM.ty, app_ref get_snoc hl, app_ref (l := ws.map .str ++ [.str (A ++ w0)]) get_snoc (by simp; omega), set_snoc]
    · intro w hw
      simp only [List.append_assoc, List.mem_append, List.mem_singleton] at hw
      rcases hw with h | h | h
      · exact hg w h
      · subst h; unfold okW; rw [app_len]; have := g1.1; have := g1.2; omega
      · subst h; unfold okW; rw [app_len]; omega

noncomputable def lpow (c : Int) : Int := if c.fmod 5 > 0 then (c.fdiv 5).fmod 9 - 4 else ((c.fdiv 5) ^ 3).fmod 200000000000000000001 - 100000000000000000000
theorem lpow_bd (c : Int) : (lpow c).natAbs ≤ 100000000000000000000 := by
  unfold lpow
  have := fmod_bd (c.fdiv 5) (n := 9) (by decide)
  have := fmod_bd ((c.fdiv 5) ^ 3) (n := 200000000000000000001) (by decide)
  split <;> omega
theorem run_lpower {c : Int} (h0 : 0 ≤ c) (h1 : c < 2 ^ 62) (d : Nat) (σ : AH) : callD G (d + 1) "_law_power" [.int c] σ = .ok (.int (lpow c)) σ := by
  have z5 : (5 : Int) ≠ 0 := by decide
  have z9 : (9 : Int) ≠ 0 := by decide
  have zb : (200000000000000000001 : Int) ≠ 0 := by decide
  have hd := fdiv_bd (x := c) 5 (by decide) h0
  have p3 := pow_ii σ (c.fdiv 5) 3 ⟨by decide, by decide, by omega⟩
  have p20 := pow_ii σ 10 20 (by decide)
  rw [show (10 : Int) ^ (20 : Int).toNat = 100000000000000000000 from by decide +kernel] at p20
  rw [show (3 : Int).toNat = 3 from rfl] at p3
  have m2 : IntMulOk 2 100000000000000000000 := mulOk_l (by decide) (by decide)
  rw [callD_s fn_lpower]
  by_cases hc : c.fmod 5 > 0
  · have hc' : decide (c.fmod 5 > 0) = true := by simpa using hc
    rw [show lpow c = _ from if_pos hc]
    simp only [runFn, List.length_cons, List.length_nil, Nat.reduceAdd, Nat.reduceSub, if_true, Nat.sub_self, Nat.sub_zero, List.replicate_zero, List.replicate_succ, List.replicate, List.append_nil, List.nil_append, List.cons_append, e_const, e_loc, e_and, e_or, e_bin, e_not, e_neg, e_cmp, e_tup, e_lst, e_edict, e_idx, e_comp, e_call, e_bi, e_meth, e_nil, e_cons, e_and1, e_and2, e_or1, e_or2, x_assign, x_setitem, x_expr, x_ret, x_ite, x_for, x_nil, x_cons, Bool.false_eq_true, if_false, items_tup, items_lst, items_rng, items_dct, lkV_tup, lkV_lst, lkV_rng, lkV_dct, lockV_tup, lockV_lst, lockV_rng, lockV_dct, unlk_ok, box_0, box_1, val_list, val_dict, obj_list, obj_dict, Nat.pred_zero, Nat.pred_succ, Nat.pred, Option.map_some, Bool.not_true, Bool.not_false, List.take_left, List.take_length, bind_ok, k_bin1, k_bin2, k_not, k_neg, k_cmp1, k_cmp2, k_tup, k_lst, k_idx1, k_idx2, k_comp1, k_compI, k_comp2, k_call, k_bi, k_meth1, k_methI, k_meth2, k_meth3, k_cons1, k_cons2, k_and, k_and_t, k_and_f, k_or, k_or_t, k_or_f, k_assign, k_set1, k_set2, k_set3, k_set4, k_expr, k_ret, k_if, k_if_t, k_if_f, k_for, k_forI, k_seq, k_seq_n, k_seq_r, List.getElem?_cons_zero, List.getElem?_cons_succ, List.set_cons_zero, List.set_cons_succ, fin_v, fin_f0, fin_f1, okB_some, truth_bool, constP_int, constP_str, constP_bool, constP_none, add_ii, sub_ii, lt_ii, gt_ii, le_ii, eq_ii, ne_ii, eq_ss, kill, List.foldl_cons, List.foldl_nil, setAll, bindT, tgtSlots, Flw.out, F_law_power, mod_ii _ _ _ z5, div_ii _ _ _ z5, mod_ii _ _ _ z9, hc', frz_int]
  · have hc' : decide (c.fmod 5 > 0) = false := by simpa using hc
    rw [show lpow c = _ from if_neg hc]
    simp only [runFn, List.length_cons, List.length_nil, Nat.reduceAdd, Nat.reduceSub, if_true, Nat.sub_self, Nat.sub_zero, List.replicate_zero, List.replicate_succ, List.replicate, List.append_nil, List.nil_append, List.cons_append, e_const, e_loc, e_and, e_or, e_bin, e_not, e_neg, e_cmp, e_tup, e_lst, e_edict, e_idx, e_comp, e_call, e_bi, e_meth, e_nil, e_cons, e_and1, e_and2, e_or1, e_or2, x_assign, x_setitem, x_expr, x_ret, x_ite, x_for, x_nil, x_cons, Bool.false_eq_true, if_false, items_tup, items_lst, items_rng, items_dct, lkV_tup, lkV_lst, lkV_rng, lkV_dct, lockV_tup, lockV_lst, lockV_rng, lockV_dct, unlk_ok, box_0, box_1, val_list, val_dict, obj_list, obj_dict, Nat.pred_zero, Nat.pred_succ, Nat.pred, Option.map_some, Bool.not_true, Bool.not_false, List.take_left, List.take_length, bind_ok, k_bin1, k_bin2, k_not, k_neg, k_cmp1, k_cmp2, k_tup, k_lst, k_idx1, k_idx2, k_comp1, k_compI, k_comp2, k_call, k_bi, k_meth1, k_methI, k_meth2, k_meth3, k_cons1, k_cons2, k_and, k_and_t, k_and_f, k_or, k_or_t, k_or_f, k_assign, k_set1, k_set2, k_set3, k_set4, k_expr, k_ret, k_if, k_if_t, k_if_f, k_for, k_forI, k_seq, k_seq_n, k_seq_r, List.getElem?_cons_zero, List.getElem?_cons_succ, List.set_cons_zero, List.set_cons_succ, fin_v, fin_f0, fin_f1, okB_some, truth_bool, constP_int, constP_str, constP_bool, constP_none, add_ii, sub_ii, lt_ii, gt_ii, le_ii, eq_ii, ne_ii, eq_ss, kill, List.foldl_cons, List.foldl_nil, setAll, bindT, tgtSlots, Flw.out, F_law_power, mod_ii _ _ _ z5, div_ii _ _ _ z5, mod_ii _ _ _ z9, hc', p3, p20, mul_ii _ _ _ m2, show (2 : Int) * 100000000000000000000 + 1 = 200000000000000000001 from rfl, mod_ii _ _ _ zb, frz_int]

/-- what a measure of the law's is -/
structure MOk (ls : List Str) (B : Nat) (ms : DI) : Prop where
  meas : Meas ms
  keys : ∀ k ∈ ms.map (·.1), k ∈ ls
  bd : ∀ kv ∈ ms, kv.2.natAbs ≤ B
theorem MOk.len {ls : List Str} {B : Nat} {ms : DI} (h : MOk ls B ms) : ms.length ≤ ls.length := by
  have := mem_of_nodup_le h.meas.nodup h.keys
  simpa using this
theorem madeL_ok {ls : List Str} {B : Nat} {D : DI} (hls : ∀ w ∈ ls, okW w) (hn : (D.map (·.1)).Nodup) (hk : ∀ k ∈ D.map (·.1), k ∈ ls) (hb : ∀ k, (val D k).natAbs ≤ B) : MOk ls B (madeL D) := by
  refine ⟨madeL_meas hn fun k h => (hls k (hk k h)).ne, fun k h => ?_, fun kv h => ?_⟩
  · obtain ⟨kv, h1, rfl⟩ := List.mem_map.mp h
    exact hk _ (madeL_mem h1).1
  · rw [(madeL_mem h).2.1]; exact hb _

theorem run_measure (cell : Int) {ls : List Str} (hl : 1 ≤ ls.length) (hl80 : ls.length ≤ 80) (hls : ∀ w ∈ ls, okW w) (d : Nat) (σ : AH) :
    ∃ ms, MOk ls (10 ^ 20) ms ∧ callD G (d + 2) "_law_measure" [.int cell, .lst (ls.map .str)] σ = .ok (mv ms) σ := by
  have z5 : (5 : Int) ≠ 0 := by decide
  have z60 : (60 : Int) ≠ 0 := by decide
  have z8 : (8 : Int) ≠ 0 := by decide
  have z7 : (7 : Int) ≠ 0 := by decide
  have b5 := fmod_bd cell (n := 5) (by decide)
  have b60 := fmod_bd cell (n := 60) (by decide)
  have b8 := fmod_bd (cell.fdiv 60) (n := 8) (by decide)
  have b7 : ((cell.fdiv 60).fmod 8).fdiv 7 = 0 ∨ ((cell.fdiv 60).fmod 8).fdiv 7 = 1 := by
    rw [Int.fdiv_eq_ediv_of_nonneg _ (by decide)]; omega
  have hcount : ∃ n : Nat, n ≤ 60 ∧ ∀ σ' : AH, getAt σ' (.lst [.int (cell.fmod 5), .int (cell.fmod 60)]) (.int (((cell.fdiv 60).fmod 8).fdiv 7)) = some (.v (.int n)) := by
    rcases b7 with h | h
    · refine ⟨(cell.fmod 5).toNat, by omega, fun σ' => ?_⟩
      rw [h]; show some (Out.v (.int (cell.fmod 5))) = _; rw [show ((cell.fmod 5).toNat : Int) = cell.fmod 5 by omega]
    · refine ⟨(cell.fmod 60).toNat, by omega, fun σ' => ?_⟩
      rw [h]; show some (Out.v (.int (cell.fmod 60))) = _; rw [show ((cell.fmod 60).toNat : Int) = cell.fmod 60 by omega]
  obtain ⟨n, hn60, hget⟩ := hcount
  rw [callD_s fn_measure]
  simp only [runFn, List.length_cons, List.length_nil, Nat.reduceAdd, Nat.reduceSub, if_true, Nat.sub_self, Nat.sub_zero, List.replicate_zero, List.replicate_succ, List.replicate, List.append_nil, List.nil_append, List.cons_append, e_const, e_loc, e_and, e_or, e_bin, e_not, e_neg, e_cmp, e_tup, e_lst, e_edict, e_idx, e_comp, e_call, e_bi, e_meth, e_nil, e_cons, e_and1, e_and2, e_or1, e_or2, x_assign, x_setitem, x_expr, x_ret, x_ite, x_for, x_nil, x_cons, Bool.false_eq_true, if_false, items_tup, items_lst, items_rng, items_dct, lkV_tup, lkV_lst, lkV_rng, lkV_dct, lockV_tup, lockV_lst, lockV_rng, lockV_dct, unlk_ok, box_0, box_1, val_list, val_dict, obj_list, obj_dict, Nat.pred_zero, Nat.pred_succ, Nat.pred, Option.map_some, Bool.not_true, Bool.not_false, List.take_left, List.take_length, bind_ok, k_bin1, k_bin2, k_not, k_neg, k_cmp1, k_cmp2, k_tup, k_lst, k_idx1, k_idx2, k_comp1, k_compI, k_comp2, k_call, k_bi, k_meth1, k_methI, k_meth2, k_meth3, k_cons1, k_cons2, k_and, k_and_t, k_and_f, k_or, k_or_t, k_or_f, k_assign, k_set1, k_set2, k_set3, k_set4, k_expr, k_ret, k_if, k_if_t, k_if_f, k_for, k_forI, k_seq, k_seq_n, k_seq_r, List.getElem?_cons_zero, List.getElem?_cons_succ, List.set_cons_zero, List.set_cons_succ, fin_v, fin_f0, fin_f1, okB_some, truth_bool, constP_int, constP_str, constP_bool, constP_none, add_ii, sub_ii, lt_ii, gt_ii, le_ii, eq_ii, ne_ii, eq_ss, kill, List.foldl_cons, List.foldl_nil, setAll, bindT, tgtSlots, Flw.out, F_law_measure, mod_ii _ _ _ z5, mod_ii _ _ _ z60, div_ii _ _ _ z60, mod_ii _ _ _ z8, div_ii _ _ _ z7, hget, range_0 _ (show (n : Int).natAbs ≤ 1000000 by omega)]
  have step := forL_const (body := execs { gl := G.const, cal := callD G (d + 1) } (.cons (.assign 4 0 (.call "_law_mix" (.cons (.loc 0) (.cons (.loc 3) .nil)))) (.cons (.assign 5 0 (.idx (.loc 1) (.bin .Mod (.loc 4) (.bi .len (.cons (.loc 1) .nil))))) (.cons (.setitem (.loc 2) (.loc 5) 0 (.call "_law_power" (.cons (.bin .FloorDiv (.loc 4) (.bi .len (.cons (.loc 1) .nil))) .nil))) .nil)))) (t := .one 3) (ks := [3, 4, 5])
    (ρ0 := [.int cell, .lst (ls.map .str), .ref σ.length, .undef, .undef, .undef])
    (fun k σ' => ∃ D : DI, (D.map (·.1)).Nodup ∧ (∀ k ∈ D.map (·.1), k ∈ ls) ∧ (∀ k, (val D k).natAbs ≤ 10 ^ 20) ∧ σ' = σ ++ [.dict false (dv D)]) (rngInts 0 n)
    (ρ := [.int cell, .lst (ls.map .str), .ref σ.length, .undef, .undef, .undef]) (σ := σ ++ [.dict false []]) ?_ rfl ⟨[], by simp, by simp, by simp [val, dget], rfl⟩
  · obtain ⟨σ', h1, D, h2, h3, h4, rfl⟩ := step
    have hlen : D.length < sortMost := by
      have := mem_of_nodup_le h2 h3
      rw [List.length_map] at this
      show D.length < 81
      omega
    refine ⟨madeL D, madeL_ok hls h2 h3 h4, ?_⟩
    rw [h1]
    simp only [runFn, List.length_cons, List.length_nil, Nat.reduceAdd, Nat.reduceSub, if_true, Nat.sub_self, Nat.sub_zero, List.replicate_zero, List.replicate_succ, List.replicate, List.append_nil, List.nil_append, List.cons_append, e_const, e_loc, e_and, e_or, e_bin, e_not, e_neg, e_cmp, e_tup, e_lst, e_edict, e_idx, e_comp, e_call, e_bi, e_meth, e_nil, e_cons, e_and1, e_and2, e_or1, e_or2, x_assign, x_setitem, x_expr, x_ret, x_ite, x_for, x_nil, x_cons, Bool.false_eq_true, if_false, items_tup, items_lst, items_rng, items_dct, lkV_tup, lkV_lst, lkV_rng, lkV_dct, lockV_tup, lockV_lst, lockV_rng, lockV_dct, unlk_ok, box_0, box_1, val_list, val_dict, obj_list, obj_dict, Nat.pred_zero, Nat.pred_succ, Nat.pred, Option.map_some, Bool.not_true, Bool.not_false, List.take_left, List.take_length, bind_ok, k_bin1, k_bin2, k_not, k_neg, k_cmp1, k_cmp2, k_tup, k_lst, k_idx1, k_idx2, k_comp1, k_compI, k_comp2, k_call, k_bi, k_meth1, k_methI, k_meth2, k_meth3, k_cons1, k_cons2, k_and, k_and_t, k_and_f, k_or, k_or_t, k_or_f, k_assign, k_set1, k_set2, k_set3, k_set4, k_expr, k_ret, k_if, k_if_t, k_if_f, k_for, k_forI, k_seq, k_seq_n, k_seq_r, List.getElem?_cons_zero, List.getElem?_cons_succ, List.set_cons_zero, List.set_cons_succ, fin_v, fin_f0, fin_f1, okB_some, truth_bool, constP_int, constP_str, constP_bool, constP_none, add_ii, sub_ii, lt_ii, gt_ii, le_ii, eq_ii, ne_ii, eq_ss, kill, List.foldl_cons, List.foldl_nil, setAll, bindT, tgtSlots, Flw.out]
    rw [run_made get_snoc hlen d]
    simp only [runFn, List.length_cons, List.length_nil, Nat.reduceAdd, Nat.reduceSub, if_true, Nat.sub_self, Nat.sub_zero, List.replicate_zero, List.replicate_succ, List.replicate, List.append_nil, List.nil_append, List.cons_append, e_const, e_loc, e_and, e_or, e_bin, e_not, e_neg, e_cmp, e_tup, e_lst, e_edict, e_idx, e_comp, e_call, e_bi, e_meth, e_nil, e_cons, e_and1, e_and2, e_or1, e_or2, x_assign, x_setitem, x_expr, x_ret, x_ite, x_for, x_nil, x_cons, Bool.false_eq_true, if_false, items_tup, items_lst, items_rng, items_dct, lkV_tup, lkV_lst, lkV_rng, lkV_dct, lockV_tup, lockV_lst, lockV_rng, lockV_dct, unlk_ok, box_0, box_1, val_list, val_dict, obj_list, obj_dict, Nat.pred_zero, Nat.pred_succ, Nat.pred, Option.map_some, Bool.not_true, Bool.not_false, List.take_left, List.take_length, bind_ok, k_bin1, k_bin2, k_not, k_neg, k_cmp1, k_cmp2, k_tup, k_lst, k_idx1, k_idx2, k_comp1, k_compI, k_comp2, k_call, k_bi, k_meth1, k_methI, k_meth2, k_meth3, k_cons1, k_cons2, k_and, k_and_t, k_and_f, k_or, k_or_t, k_or_f, k_assign, k_set1, k_set2, k_set3, k_set4, k_expr, k_ret, k_if, k_if_t, k_if_f, k_for, k_forI, k_seq, k_seq_n, k_seq_r, List.getElem?_cons_zero, List.getElem?_cons_succ, List.set_cons_zero, List.set_cons_succ, fin_v, fin_f0, fin_f1, okB_some, truth_bool, constP_int, constP_str, constP_bool, constP_none, add_ii, sub_ii, lt_ii, gt_ii, le_ii, eq_ii, ne_ii, eq_ss, kill, List.foldl_cons, List.foldl_nil, setAll, bindT, tgtSlots, Flw.out, frz_pure (mv_pure _)]
  · rintro k x σ' hx ⟨D, h2, h3, h4, rfl⟩
    obtain ⟨rfl, hkm⟩ := rng_get hx
    have hlen : D.length ≤ 1000000 := by
      have := mem_of_nodup_le h2 h3
      rw [List.length_map] at this
      omega
    have zl : (ls.length : Int) ≠ 0 := by omega
    have bm := mix_bd cell k
    obtain ⟨j, hj, ej⟩ := fmod_toNat (mix cell k) (n := ls.length) (by omega)
    obtain ⟨w0, hw0⟩ : ∃ w0, ls[j]? = some w0 := ⟨ls[j], by simp [hj]⟩
    have hmem := List.mem_of_getElem? hw0
    have hgt : (ls.map PV.str)[j]? = some (.str w0) := by simp [hw0]
    have hdv := fdiv_bd (x := mix cell k) ls.length (by omega) bm.1
    have i1 := idx_lst (σ ++ [AObj.dict false (dv D)]) (ls.map .str) j (.str w0) (by omega) hgt
    rw [← ej] at i1
    have ln := len_lst (σ ++ [AObj.dict false (dv D)]) (ls.map .str) (by simp; omega)
    rw [List.length_map] at ln
    refine ⟨_, [.int cell, .lst (ls.map .str), .ref σ.length, .int k, .int (mix cell k), .str w0], σ ++ [AObj.dict false (dv (dput D w0 (lpow ((mix cell k).fdiv ls.length))))], rfl, ?_, rfl, ⟨_, dput_nodup h2, ?_, ?_, rfl⟩⟩
    · simp only [runFn, List.length_cons, List.length_nil, Nat.reduceAdd, Nat.reduceSub, if_true, Nat.sub_self, Nat.sub_zero, List.replicate_zero, List.replicate_succ, List.replicate, List.append_nil, List.nil_append, List.cons_append, e_const, e_loc, e_and, e_or, e_bin, e_not, e_neg, e_cmp, e_tup, e_lst, e_edict, e_idx, e_comp, e_call, e_bi, e_meth, e_nil, e_cons, e_and1, e_and2, e_or1, e_or2, x_assign, x_setitem, x_expr, x_ret, x_ite, x_for, x_nil, x_cons, Bool.false_eq_true, if_false, items_tup, items_lst, items_rng, items_dct, lkV_tup, lkV_lst, lkV_rng, lkV_dct, lockV_tup, lockV_lst, lockV_rng, lockV_dct, unlk_ok, box_0, box_1, val_list, val_dict, obj_list, obj_dict, Nat.pred_zero, Nat.pred_succ, Nat.pred, Option.map_some, Bool.not_true, Bool.not_false, List.take_left, List.take_length, bind_ok, k_bin1, k_bin2, k_not, k_neg, k_cmp1, k_cmp2, k_tup, k_lst, k_idx1, k_idx2, k_comp1, k_compI, k_comp2, k_call, k_bi, k_meth1, k_methI, k_meth2, k_meth3, k_cons1, k_cons2, k_and, k_and_t, k_and_f, k_or, k_or_t, k_or_f, k_assign, k_set1, k_set2, k_set3, k_set4, k_expr, k_ret, k_if, k_if_t, k_if_f, k_for, k_forI, k_seq, k_seq_n, k_seq_r, List.getElem?_cons_zero, List.getElem?_cons_succ, List.set_cons_zero, List.set_cons_succ, fin_v, fin_f0, fin_f1, okB_some, truth_bool, constP_int, constP_str, constP_bool, constP_none, add_ii, sub_ii, lt_ii, gt_ii, le_ii, eq_ii, ne_ii, eq_ss, kill, List.foldl_cons, List.foldl_nil, setAll, bindT, tgtSlots, Flw.out, run_mix, ln, mod_ii _ _ _ zl, div_ii _ _ _ zl, i1, run_lpower hdv.1 (show (mix cell k).fdiv ls.length < 2 ^ 62 by omega), set_dv get_snoc hlen, set_snoc]
    · intro q hq
      rcases dput_mem.mp hq with rfl | h
      · exact hmem
      · exact h3 q h
    · intro q
      unfold val
      rw [dget_put]
      split
      · exact lpow_bd _
      · exact h4 q
end Mine

set_option autoImplicit false
set_option maxRecDepth 100000
set_option linter.unusedSimpArgs false
set_option linter.unusedVariables false
set_option exponentiation.threshold 2000
namespace Mine
open PySem
noncomputable def dropS : Nat → PSs → PSs
  | 0, b => b
  | n + 1, .cons _ b => dropS n b
  | _, .nil => .nil

theorem ne_mv (σ : AH) (x : DI) : cmpP σ .NotEq (mv x) (mv x) = some false := by
  show (eqV (mv x) (mv x)).map (!·) = some false
  unfold eqV
  rw [mv_plain, pvEq_refl _ (mv_pure x)]; rfl

theorem items_refL {σ : AH} {i : Nat} {b : Bool} {l : List PV} (h : σ[i]? = some (.list b l)) : items σ (.ref i) = some l := congrArg itemsD (deref_l h)
theorem lkV_refL {σ : AH} {i : Nat} {b : Bool} {l : List PV} (h : σ[i]? = some (.list b l)) : lkV σ (.ref i) = b := by simp [lkV, lkAt, h]
theorem lockV_snoc {σ : AH} {b b' : Bool} {l : List PV} : lockV (σ ++ [AObj.list b l]) (.ref σ.length) b' = σ ++ [AObj.list b' l] := by simp [lockV, lockAt]
theorem MOk.mul {ls : List Str} {B : Nat} {ms : DI} (h : MOk ls B ms) (hB : B ≤ 10 ^ 30) {n : Int} (hn : n.natAbs ≤ 10 ^ 30) : ∀ kv ∈ ms, IntMulOk kv.2 n := fun kv hkv =>
  mulOk_w (Nat.lt_of_le_of_lt (Nat.le_trans (h.bd kv hkv) hB) (Nat.lt_of_lt_of_le (show 10 ^ 30 < 2 ^ 100 by decide +kernel) (Nat.pow_le_pow_right (by decide) (by decide)))) (Nat.lt_of_le_of_lt hn (Nat.lt_of_lt_of_le (show 10 ^ 30 < 2 ^ 100 by decide +kernel) (Nat.pow_le_pow_right (by decide) (by decide))))
theorem putF_short {ls : List Str} {a b : DI} {n : Int} (h80 : ls.length ≤ 80) (ha : (a.map (·.1)).Nodup) (hk : ∀ k ∈ a.map (·.1), k ∈ ls) (hb : ∀ k ∈ b.map (·.1), k ∈ ls) : (putF a b n).length < sortMost := by
  have := mem_of_nodup_le (putF_nodup (ms := b) (n := n) ha) (m := ls) (fun x hx => by rcases putF_mem.mp hx with h | h; exact hk x h; exact hb x h)
  rw [List.length_map] at this
  show _ < 81
  omega

theorem app_snoc {σ : AH} {l : List PV} (hl : l.length ≤ 1000000) (v : PV) : bmP (σ ++ [AObj.list false l]) .append (.ref σ.length) [v] = some (.none, σ ++ [AObj.list false (l ++ [v])]) := by
  rw [app_ref get_snoc hl, set_snoc]
noncomputable def headS : PSs → PS
  | .cons s _ => s
  | .nil => .expr (.const .none)
theorem execs_hd {c : Cx} {b : PSs} {ρ ρ1 : List PV} {σ σ1 : AH} (n : Nat) (h : exec c (headS (dropS n b)) ρ σ = .ok (.next, ρ1) σ1) : execs c (dropS n b) ρ σ = execs c (dropS (n + 1) b) ρ1 σ1 := by
  have e : ∀ (n : Nat) (b : PSs), dropS (n + 1) b = dropS 1 (dropS n b) := by
    intro n
    induction n with
    | zero => intro b; rfl
    | succ n ih => intro b; cases b with
      | nil => rfl
      | cons s b => exact ih b
  rw [e n b]
  generalize dropS n b = B at *
  cases B with
  | nil =>
    simp only [headS, x_expr, e_const, constP_none, bind_ok] at h
    cases h
    rfl
  | cons s b =>
    simp only [headS] at h
    rw [x_cons, h]
    rfl
theorem pick3 (σ : AH) (x : Int) (a b c : PV) : ∃ v, (v = a ∨ v = b ∨ v = c) ∧ getAt σ (.lst [a, b, c]) (.int (x.fmod 3)) = some (.v v) := by
  have := fmod_bd x (n := 3) (by decide)
  have h : x.fmod 3 = 0 ∨ x.fmod 3 = 1 ∨ x.fmod 3 = 2 := by omega
  rcases h with h | h | h <;> rw [h]
  · exact ⟨a, .inl rfl, rfl⟩
  · exact ⟨b, .inr (.inl rfl), rfl⟩
  · exact ⟨c, .inr (.inr rfl), rfl⟩

end Mine

set_option autoImplicit false
set_option maxRecDepth 100000
set_option linter.unusedSimpArgs false
set_option linter.unusedVariables false
set_option exponentiation.threshold 2000
namespace Mine
open PySem
theorem fn_filled : G.fn "filled" = some F_filled := by rfl
theorem fn_lfilled : G.fn "_law_filled" = some F_law_filled := by rfl

/-- a filling: measures for letters -/
noncomputable abbrev DF := List (Str × DI)
noncomputable def fv (F : DF) : List (Str × PV) := F.map fun kv => (kv.1, mv kv.2)
noncomputable def fillAt (F : DF) (k : Str) : DI := (dget F k).getD [(k, 1)]
noncomputable def fillF (F : DF) (D ms : DI) : DI := ms.foldl (fun D kv => putF D (fillAt F kv.1) kv.2) D
theorem fv_get (F : DF) (k : Str) : dget (fv F) k = (dget F k).map mv := by
  unfold dget fv
  rw [List.find?_map]
  simp only [Function.comp_def, Option.map_map]
theorem fv_getD (F : DF) (k : Str) : (dget (fv F) k).getD (.tup [.tup [.str k, .int 1]]) = mv (fillAt F k) := by
  rw [fv_get]; unfold fillAt; cases dget F k <;> rfl
theorem fv_put (F : DF) (k : Str) (v : DI) : dput (fv F) k (mv v) = fv (dput F k v) := by
  unfold dput fv
  simp only [List.any_map, Function.comp_def, List.map_map]
  split
  · rw [List.map_map]
    apply List.map_congr_left
    intro kv _
    simp only [Function.comp]
    split <;> rfl
  · simp
theorem fv_len (F : DF) : (fv F).length = F.length := by simp [fv]

/-- a filling's measures are such as the law makes -/
noncomputable def FOk (ls : List Str) (F : DF) : Prop := (F.map (·.1)).Nodup ∧ (∀ k ∈ F.map (·.1), k ∈ ls) ∧ ∀ kv ∈ F, MOk ls (10 ^ 20) kv.2
theorem fillAt_ok {ls : List Str} {F : DF} (h : FOk ls F) {k : Str} (hk : k ∈ ls) : (∀ x ∈ (fillAt F k).map (·.1), x ∈ ls) ∧ (∀ kv ∈ fillAt F k, kv.2.natAbs ≤ 10 ^ 20) ∧ (fillAt F k).length ≤ ls.length := by
  unfold fillAt
  cases hq : dget F k with
  | none =>
    refine ⟨?_, ?_, ?_⟩
    · intro x hx; simp at hx; subst hx; exact hk
    · intro kv hkv; simp at hkv; subst hkv; exact (show (1 : Nat) ≤ 10 ^ 20 by decide)
    · simp; exact List.length_pos_of_mem hk
  | some m =>
    have := h.2.2 _ (mem_of_dget hq)
    exact ⟨this.keys, this.bd, this.len⟩
theorem fillF_ok {ls : List Str} {F : DF} (h : FOk ls F) : ∀ (ms D : DI), (∀ k ∈ ms.map (·.1), k ∈ ls) → (D.map (·.1)).Nodup → (∀ k ∈ D.map (·.1), k ∈ ls) → ((fillF F D ms).map (·.1)).Nodup ∧ ∀ k ∈ (fillF F D ms).map (·.1), k ∈ ls
  | [], D, _, h1, h2 => ⟨h1, h2⟩
  | kv :: ms, D, hk, h1, h2 => by
    rw [List.map_cons] at hk
    refine fillF_ok h ms (putF D (fillAt F kv.1) kv.2) (fun k q => hk k (List.mem_cons_of_mem _ q)) (putF_nodup h1) fun k q => ?_
    rcases putF_mem.mp q with q | q
    · exact h2 k q
    · exact (fillAt_ok h (hk kv.1 (List.mem_cons_self ..))).1 k q
theorem fillF_nil {ms : DI} (hm : (ms.map (·.1)).Nodup) : fillF [] [] ms = ms := by
  have e : fillF [] [] ms = putF [] ms 1 := by
    unfold fillF putF
    congr 1
    funext D kv
    simp [fillAt, dget, putF]
  rw [e, putF_one hm]
theorem short_of {ls : List Str} {D : DI} (h80 : ls.length ≤ 80) (h1 : (D.map (·.1)).Nodup) (h2 : ∀ k ∈ D.map (·.1), k ∈ ls) : D.length < sortMost := by
  have := mem_of_nodup_le h1 h2
  rw [List.length_map] at this
  show _ < 81
  omega

/-- the filling as the program has it: a dict value or a tracked one -/
noncomputable def IsF (σ : AH) (v : PV) (F : DF) : Prop := deref σ v = .dct (fv F) ∧ isTy σ .dict v = some true ∧ v ≠ .undef
theorem IsF.get {σ : AH} {v : PV} {F : DF} (h : IsF σ v F) (k : Str) : bmP σ .get v [.str k, .tup [.tup [.str k, .int 1]]] = some (mv (fillAt F k), σ) := by
  show (dctOf (deref σ v)).bind _ = _
  rw [h.1]
  exact congrArg (fun x => some (x, σ)) (fv_getD F k)
theorem IsF.more {σ : AH} {v : PV} {F : DF} (h : IsF σ v F) (o : AObj) : IsF (σ ++ [o]) v F := by
  obtain ⟨h1, h2, h3⟩ := h
  cases v with
  | ref i =>
    have h1' : derefO σ[i]? = .dct (fv F) := h1
    have hi : i < σ.length := by
      rcases Nat.lt_or_ge i σ.length with q | q
      · exact q
      · rw [List.getElem?_eq_none q] at h1'; cases h1'
    have ed : deref (σ ++ [o]) (.ref i) = deref σ (.ref i) := congrArg derefO (List.getElem?_append_left hi)
    exact ⟨ed.trans h1, (congrArg (isTyD .dict) ed).trans h2, h3⟩
  | _ => exact ⟨h1, h2, h3⟩
theorem IsF.form {σ : AH} {v : PV} {F : DF} (h : IsF σ v F) : (∃ l, v = .dct l) ∨ ∃ i, v = .ref i := by
  obtain ⟨h1, h2, h3⟩ := h
  cases v with
  | dct l => exact .inl ⟨l, rfl⟩
  | ref i => exact .inr ⟨i, rfl⟩
  | _ => cases h2
theorem mulB {x y : Int} (hx : x.natAbs ≤ 10 ^ 20) (hy : y.natAbs ≤ 10 ^ 20) : IntMulOk x y :=
  mulOk_w (Nat.lt_of_le_of_lt hx (Nat.lt_of_lt_of_le (show 10 ^ 20 < 2 ^ 100 by decide +kernel) (Nat.pow_le_pow_right (by decide) (by decide)))) (Nat.lt_of_le_of_lt hy (Nat.lt_of_lt_of_le (show 10 ^ 20 < 2 ^ 100 by decide +kernel) (Nat.pow_le_pow_right (by decide) (by decide))))

/-- a loop that fills -/
theorem loop_fill (c : Cx) {ls : List Str} {F : DF} (hF : FOk ls F) (h80 : ls.length ≤ 80) {ρ0 : List PV} {body : PSs} {t : Tgt} {ks : List Nat} {σ : AH} (l : DI) (hl : ∀ k ∈ l.map (·.1), k ∈ ls)
    (hb : ∀ (kv : Str × Int) (D : DI), kv ∈ l → D.length ≤ 81 → ∃ ρ1 ρ2, bindT t (.tup [.str kv.1, .int kv.2]) ρ0 = some ρ1 ∧ execs c body ρ1 (σ ++ [.dict false (dv D)]) = .ok (.next, ρ2) (σ ++ [.dict false (dv (putF D (fillAt F kv.1) kv.2))]) ∧ kill ks ρ2 = ρ0) :
    ∀ {ρ : List PV} {D : DI}, (D.map (·.1)).Nodup → (∀ k ∈ D.map (·.1), k ∈ ls) → kill ks ρ = ρ0 →
    forL (execs c body) t ks (l.map fun kv => .tup [.str kv.1, .int kv.2]) ρ (σ ++ [.dict false (dv D)]) = .ok (.next, ρ0) (σ ++ [.dict false (dv (fillF F D l))]) := by
  induction l with
  | nil =>
    intro ρ D _ _ hk
    rw [List.map_nil, forL, hk]
    rfl
  | cons kv l ih =>
    intro ρ D h1 h2 hk
    have h3 := short_of h80 h1 h2
    have h81 : sortMost = 81 := rfl
    obtain ⟨ρ1, ρ2, e1, e2, e3⟩ := hb kv D (List.mem_cons_self ..) (by omega)
    rw [List.map_cons, forL, hk, e1]
    simp only [e2, bind_ok]
    rw [ih (fun k q => hl k (by rw [List.map_cons]; exact List.mem_cons_of_mem _ q)) (fun q D hq => hb q D (List.mem_cons_of_mem _ hq)) (putF_nodup h1) (fun k q => by
      rcases putF_mem.mp q with q | q
      · exact h2 k q
      · exact (fillAt_ok hF (hl kv.1 (by rw [List.map_cons]; exact List.mem_cons_self ..))).1 k q) e3]
    rfl

theorem run_filled {ls : List Str} {F : DF} (hF : FOk ls F) (h80 : ls.length ≤ 80) {ms : DI} (hk : ∀ k ∈ ms.map (·.1), k ∈ ls) (hbd : ∀ kv ∈ ms, kv.2.natAbs ≤ 10 ^ 20) {σ : AH} {v : PV} (hv : IsF σ v F) (d : Nat) :
    callD G (d + 2) "filled" [mv ms, v] σ = .ok (mv (madeL (fillF F [] ms))) σ := by
  have ok := fillF_ok hF ms [] hk (by simp) (by simp)
  have e3 := run_mod (σ := σ ++ [.dict false (dv (fillF F [] ms))]) (i := σ.length) get_snoc (short_of h80 ok.1 ok.2) d
  have lp := loop_fill (F := F) { gl := G.const, cal := callD G (d + 1) } hF h80 (ρ0 := [mv ms, v, .ref σ.length, .undef, .undef]) (body := (.cons (.expr (.call "put_to" (.cons (.loc 2) (.cons (.meth (.loc 1) .get (.cons (.loc 3) (.cons (.tup (.cons (.tup (.cons (.loc 3) (.cons (.const (.int 1)) .nil))) .nil)) .nil))) (.cons (.loc 4) .nil))))) .nil)) (t := .many [3, 4]) (ks := [3, 4]) (σ := σ) ms hk (by
    intro kv D hkv hD
    have hkl := hk kv.1 (List.mem_map.mpr ⟨kv, hkv, rfl⟩)
    have fo := fillAt_ok hF hkl
    refine ⟨_, [mv ms, v, .ref σ.length, .str kv.1, .int kv.2], rfl, ?_, rfl⟩
    have hv' := hv.more (.dict false (dv D))
    have p := run_put (ms := fillAt F kv.1) (n := kv.2) (fun q hq => mulB (fo.2.1 q hq) (hbd kv hkv)) d (σ := σ ++ [.dict false (dv D)]) (i := σ.length) (D := D) get_snoc (by omega)
    rw [set_snoc] at p
    rcases hv.form with ⟨l, rfl⟩ | ⟨i, rfl⟩
    · simp only [runFn, List.length_cons, List.length_nil, Nat.reduceAdd, Nat.reduceSub, if_true, Nat.sub_self, Nat.sub_zero, List.replicate_zero, List.replicate_succ, List.replicate, List.append_nil, List.nil_append, List.cons_append, e_const, e_loc, e_and, e_or, e_bin, e_not, e_neg, e_cmp, e_tup, e_lst, e_edict, e_idx, e_comp, e_call, e_bi, e_meth, e_nil, e_cons, e_and1, e_and2, e_or1, e_or2, x_assign, x_setitem, x_expr, x_ret, x_ite, x_for, x_nil, x_cons, Bool.false_eq_true, if_false, items_tup, items_lst, items_rng, items_dct, lkV_tup, lkV_lst, lkV_rng, lkV_dct, lockV_tup, lockV_lst, lockV_rng, lockV_dct, unlk_ok, box_0, box_1, val_list, val_dict, obj_list, obj_dict, Nat.pred_zero, Nat.pred_succ, Nat.pred, Option.map_some, Bool.not_true, Bool.not_false, List.take_left, List.take_length, bind_ok, k_bin1, k_bin2, k_not, k_neg, k_cmp1, k_cmp2, k_tup, k_lst, k_idx1, k_idx2, k_comp1, k_compI, k_comp2, k_call, k_bi, k_meth1, k_methI, k_meth2, k_meth3, k_cons1, k_cons2, k_and, k_and_t, k_and_f, k_or, k_or_t, k_or_f, k_assign, k_set1, k_set2, k_set3, k_set4, k_expr, k_ret, k_if, k_if_t, k_if_f, k_for, k_forI, k_seq, k_seq_n, k_seq_r, List.getElem?_cons_zero, List.getElem?_cons_succ, List.set_cons_zero, List.set_cons_succ, fin_v, fin_f0, fin_f1, okB_some, truth_bool, constP_int, constP_str, constP_bool, constP_none, add_ii, sub_ii, lt_ii, gt_ii, le_ii, eq_ii, ne_ii, eq_ss, kill, List.foldl_cons, List.foldl_nil, setAll, bindT, tgtSlots, Flw.out, hv'.2.1, BM.ty, hv'.get, p]
    · simp only [runFn, List.length_cons, List.length_nil, Nat.reduceAdd, Nat.reduceSub, if_true, Nat.sub_self, Nat.sub_zero, List.replicate_zero, List.replicate_succ, List.replicate, List.append_nil, List.nil_append, List.cons_append, e_const, e_loc, e_and, e_or, e_bin, e_not, e_neg, e_cmp, e_tup, e_lst, e_edict, e_idx, e_comp, e_call, e_bi, e_meth, e_nil, e_cons, e_and1, e_and2, e_or1, e_or2, x_assign, x_setitem, x_expr, x_ret, x_ite, x_for, x_nil, x_cons, Bool.false_eq_true, if_false, items_tup, items_lst, items_rng, items_dct, lkV_tup, lkV_lst, lkV_rng, lkV_dct, lockV_tup, lockV_lst, lockV_rng, lockV_dct, unlk_ok, box_0, box_1, val_list, val_dict, obj_list, obj_dict, Nat.pred_zero, Nat.pred_succ, Nat.pred, Option.map_some, Bool.not_true, Bool.not_false, List.take_left, List.take_length, bind_ok, k_bin1, k_bin2, k_not, k_neg, k_cmp1, k_cmp2, k_tup, k_lst, k_idx1, k_idx2, k_comp1, k_compI, k_comp2, k_call, k_bi, k_meth1, k_methI, k_meth2, k_meth3, k_cons1, k_cons2, k_and, k_and_t, k_and_f, k_or, k_or_t, k_or_f, k_assign, k_set1, k_set2, k_set3, k_set4, k_expr, k_ret, k_if, k_if_t, k_if_f, k_for, k_forI, k_seq, k_seq_n, k_seq_r, List.getElem?_cons_zero, List.getElem?_cons_succ, List.set_cons_zero, List.set_cons_succ, fin_v, fin_f0, fin_f1, okB_some, truth_bool, constP_int, constP_str, constP_bool, constP_none, add_ii, sub_ii, lt_ii, gt_ii, le_ii, eq_ii, ne_ii, eq_ss, kill, List.foldl_cons, List.foldl_nil, setAll, bindT, tgtSlots, Flw.out, hv'.2.1, BM.ty, hv'.get, p]
    ) (ρ := [mv ms, v, .ref σ.length, .undef, .undef]) (D := []) (by simp) (by simp) rfl
  rw [callD_s fn_filled]
  unfold mv at lp e3 ⊢
  simp only [runFn, List.length_cons, List.length_nil, Nat.reduceAdd, Nat.reduceSub, if_true, Nat.sub_self, Nat.sub_zero, List.replicate_zero, List.replicate_succ, List.replicate, List.append_nil, List.nil_append, List.cons_append, e_const, e_loc, e_and, e_or, e_bin, e_not, e_neg, e_cmp, e_tup, e_lst, e_edict, e_idx, e_comp, e_call, e_bi, e_meth, e_nil, e_cons, e_and1, e_and2, e_or1, e_or2, x_assign, x_setitem, x_expr, x_ret, x_ite, x_for, x_nil, x_cons, Bool.false_eq_true, if_false, items_tup, items_lst, items_rng, items_dct, lkV_tup, lkV_lst, lkV_rng, lkV_dct, lockV_tup, lockV_lst, lockV_rng, lockV_dct, unlk_ok, box_0, box_1, val_list, val_dict, obj_list, obj_dict, Nat.pred_zero, Nat.pred_succ, Nat.pred, Option.map_some, Bool.not_true, Bool.not_false, List.take_left, List.take_length, bind_ok, k_bin1, k_bin2, k_not, k_neg, k_cmp1, k_cmp2, k_tup, k_lst, k_idx1, k_idx2, k_comp1, k_compI, k_comp2, k_call, k_bi, k_meth1, k_methI, k_meth2, k_meth3, k_cons1, k_cons2, k_and, k_and_t, k_and_f, k_or, k_or_t, k_or_f, k_assign, k_set1, k_set2, k_set3, k_set4, k_expr, k_ret, k_if, k_if_t, k_if_f, k_for, k_forI, k_seq, k_seq_n, k_seq_r, List.getElem?_cons_zero, List.getElem?_cons_succ, List.set_cons_zero, List.set_cons_succ, fin_v, fin_f0, fin_f1, okB_some, truth_bool, constP_int, constP_str, constP_bool, constP_none, add_ii, sub_ii, lt_ii, gt_ii, le_ii, eq_ii, ne_ii, eq_ss, kill, List.foldl_cons, List.foldl_nil, setAll, bindT, tgtSlots, Flw.out, F_filled]
  rw [show σ ++ [AObj.dict false []] = σ ++ [AObj.dict false (dv [])] from rfl, lp]
  simp only [runFn, List.length_cons, List.length_nil, Nat.reduceAdd, Nat.reduceSub, if_true, Nat.sub_self, Nat.sub_zero, List.replicate_zero, List.replicate_succ, List.replicate, List.append_nil, List.nil_append, List.cons_append, e_const, e_loc, e_and, e_or, e_bin, e_not, e_neg, e_cmp, e_tup, e_lst, e_edict, e_idx, e_comp, e_call, e_bi, e_meth, e_nil, e_cons, e_and1, e_and2, e_or1, e_or2, x_assign, x_setitem, x_expr, x_ret, x_ite, x_for, x_nil, x_cons, Bool.false_eq_true, if_false, items_tup, items_lst, items_rng, items_dct, lkV_tup, lkV_lst, lkV_rng, lkV_dct, lockV_tup, lockV_lst, lockV_rng, lockV_dct, unlk_ok, box_0, box_1, val_list, val_dict, obj_list, obj_dict, Nat.pred_zero, Nat.pred_succ, Nat.pred, Option.map_some, Bool.not_true, Bool.not_false, List.take_left, List.take_length, bind_ok, k_bin1, k_bin2, k_not, k_neg, k_cmp1, k_cmp2, k_tup, k_lst, k_idx1, k_idx2, k_comp1, k_compI, k_comp2, k_call, k_bi, k_meth1, k_methI, k_meth2, k_meth3, k_cons1, k_cons2, k_and, k_and_t, k_and_f, k_or, k_or_t, k_or_f, k_assign, k_set1, k_set2, k_set3, k_set4, k_expr, k_ret, k_if, k_if_t, k_if_f, k_for, k_forI, k_seq, k_seq_n, k_seq_r, List.getElem?_cons_zero, List.getElem?_cons_succ, List.set_cons_zero, List.set_cons_succ, fin_v, fin_f0, fin_f1, okB_some, truth_bool, constP_int, constP_str, constP_bool, constP_none, add_ii, sub_ii, lt_ii, gt_ii, le_ii, eq_ii, ne_ii, eq_ss, kill, List.foldl_cons, List.foldl_nil, setAll, bindT, tgtSlots, Flw.out]
  rw [e3]
  simp only [runFn, List.length_cons, List.length_nil, Nat.reduceAdd, Nat.reduceSub, if_true, Nat.sub_self, Nat.sub_zero, List.replicate_zero, List.replicate_succ, List.replicate, List.append_nil, List.nil_append, List.cons_append, e_const, e_loc, e_and, e_or, e_bin, e_not, e_neg, e_cmp, e_tup, e_lst, e_edict, e_idx, e_comp, e_call, e_bi, e_meth, e_nil, e_cons, e_and1, e_and2, e_or1, e_or2, x_assign, x_setitem, x_expr, x_ret, x_ite, x_for, x_nil, x_cons, Bool.false_eq_true, if_false, items_tup, items_lst, items_rng, items_dct, lkV_tup, lkV_lst, lkV_rng, lkV_dct, lockV_tup, lockV_lst, lockV_rng, lockV_dct, unlk_ok, box_0, box_1, val_list, val_dict, obj_list, obj_dict, Nat.pred_zero, Nat.pred_succ, Nat.pred, Option.map_some, Bool.not_true, Bool.not_false, List.take_left, List.take_length, bind_ok, k_bin1, k_bin2, k_not, k_neg, k_cmp1, k_cmp2, k_tup, k_lst, k_idx1, k_idx2, k_comp1, k_compI, k_comp2, k_call, k_bi, k_meth1, k_methI, k_meth2, k_meth3, k_cons1, k_cons2, k_and, k_and_t, k_and_f, k_or, k_or_t, k_or_f, k_assign, k_set1, k_set2, k_set3, k_set4, k_expr, k_ret, k_if, k_if_t, k_if_f, k_for, k_forI, k_seq, k_seq_n, k_seq_r, List.getElem?_cons_zero, List.getElem?_cons_succ, List.set_cons_zero, List.set_cons_succ, fin_v, fin_f0, fin_f1, okB_some, truth_bool, constP_int, constP_str, constP_bool, constP_none, add_ii, sub_ii, lt_ii, gt_ii, le_ii, eq_ii, ne_ii, eq_ss, kill, List.foldl_cons, List.foldl_nil, setAll, bindT, tgtSlots, Flw.out]
  have h5 := mv_pure (madeL (fillF F [] ms))
  unfold mv at h5
  rw [frz_pure h5]

theorem run_lfilled {ls : List Str} {F : DF} (hF : FOk ls F) (h80 : ls.length ≤ 80) {ms : DI} (hk : ∀ k ∈ ms.map (·.1), k ∈ ls) (hbd : ∀ kv ∈ ms, kv.2.natAbs ≤ 10 ^ 20) {σ : AH} {v : PV} (hv : IsF σ v F) (d : Nat) :
    callD G (d + 2) "_law_filled" [mv ms, v] σ = .ok (mv (madeL (fillF F [] ms))) σ := by
  have ok := fillF_ok hF ms [] hk (by simp) (by simp)
  have e3 := run_made (σ := σ ++ [.dict false (dv (fillF F [] ms))]) (i := σ.length) get_snoc (short_of h80 ok.1 ok.2) d
  have lp := loop_fill (F := F) { gl := G.const, cal := callD G (d + 1) } hF h80 (ρ0 := [mv ms, v, .ref σ.length, .undef, .undef, .undef, .undef]) (body := (.cons (.forS (.many [5, 6]) (.meth (.loc 1) .get (.cons (.loc 3) (.cons (.tup (.cons (.tup (.cons (.loc 3) (.cons (.const (.int 1)) .nil))) .nil)) .nil))) (.cons (.setitem (.loc 2) (.loc 5) 0 (.bin .Add (.meth (.loc 2) .get (.cons (.loc 5) (.cons (.const (.int 0)) .nil))) (.bin .Mult (.loc 6) (.loc 4)))) .nil) [5, 6]) .nil)) (t := .many [3, 4]) (ks := [3, 4, 5, 6]) (σ := σ) ms hk (by
    intro kv D hkv hD
    have hkl := hk kv.1 (List.mem_map.mpr ⟨kv, hkv, rfl⟩)
    have fo := fillAt_ok hF hkl
    refine ⟨_, [mv ms, v, .ref σ.length, .str kv.1, .int kv.2, .undef, .undef], rfl, ?_, rfl⟩
    have hv' := hv.more (.dict false (dv D))
    have lp2 := loop_put { gl := G.const, cal := callD G (d + 1) } (n := kv.2) (ρ0 := [mv ms, v, .ref σ.length, .str kv.1, .int kv.2, .undef, .undef]) (i := σ.length) (body := (.cons (.setitem (.loc 2) (.loc 5) 0 (.bin .Add (.meth (.loc 2) .get (.cons (.loc 5) (.cons (.const (.int 0)) .nil))) (.bin .Mult (.loc 6) (.loc 4)))) .nil)) (t := .many [5, 6]) (ks := [5, 6]) (fillAt F kv.1) (by
      intro kw σ' D' hkw hD' hl'
      refine ⟨_, [mv ms, v, .ref σ.length, .str kv.1, .int kv.2, .str kw.1, .int kw.2], rfl, ?_, rfl⟩
      simp only [runFn, List.length_cons, List.length_nil, Nat.reduceAdd, Nat.reduceSub, if_true, Nat.sub_self, Nat.sub_zero, List.replicate_zero, List.replicate_succ, List.replicate, List.append_nil, List.nil_append, List.cons_append, e_const, e_loc, e_and, e_or, e_bin, e_not, e_neg, e_cmp, e_tup, e_lst, e_edict, e_idx, e_comp, e_call, e_bi, e_meth, e_nil, e_cons, e_and1, e_and2, e_or1, e_or2, x_assign, x_setitem, x_expr, x_ret, x_ite, x_for, x_nil, x_cons, Bool.false_eq_true, if_false, items_tup, items_lst, items_rng, items_dct, lkV_tup, lkV_lst, lkV_rng, lkV_dct, lockV_tup, lockV_lst, lockV_rng, lockV_dct, unlk_ok, box_0, box_1, val_list, val_dict, obj_list, obj_dict, Nat.pred_zero, Nat.pred_succ, Nat.pred, Option.map_some, Bool.not_true, Bool.not_false, List.take_left, List.take_length, bind_ok, k_bin1, k_bin2, k_not, k_neg, k_cmp1, k_cmp2, k_tup, k_lst, k_idx1, k_idx2, k_comp1, k_compI, k_comp2, k_call, k_bi, k_meth1, k_methI, k_meth2, k_meth3, k_cons1, k_cons2, k_and, k_and_t, k_and_f, k_or, k_or_t, k_or_f, k_assign, k_set1, k_set2, k_set3, k_set4, k_expr, k_ret, k_if, k_if_t, k_if_f, k_for, k_forI, k_seq, k_seq_n, k_seq_r, List.getElem?_cons_zero, List.getElem?_cons_succ, List.set_cons_zero, List.set_cons_succ, fin_v, fin_f0, fin_f1, okB_some, truth_bool, constP_int, constP_str, constP_bool, constP_none, add_ii, sub_ii, lt_ii, gt_ii, le_ii, eq_ii, ne_ii, eq_ss, kill, List.foldl_cons, List.foldl_nil, setAll, bindT, tgtSlots, Flw.out, isTy_dv hD', BM.ty, get_dvD hD', mul_ii σ' _ _ (mulB (fo.2.1 kw hkw) (hbd kv hkv)), set_dv hD' hl']
      ) (ρ := [mv ms, v, .ref σ.length, .str kv.1, .int kv.2, .undef, .undef]) (σ := σ ++ [AObj.dict false (dv D)]) (D := D) get_snoc (by omega) rfl
    rw [set_snoc] at lp2
    rcases hv.form with ⟨l, rfl⟩ | ⟨i, rfl⟩
    all_goals
      simp only [runFn, List.length_cons, List.length_nil, Nat.reduceAdd, Nat.reduceSub, if_true, Nat.sub_self, Nat.sub_zero, List.replicate_zero, List.replicate_succ, List.replicate, List.append_nil, List.nil_append, List.cons_append, e_const, e_loc, e_and, e_or, e_bin, e_not, e_neg, e_cmp, e_tup, e_lst, e_edict, e_idx, e_comp, e_call, e_bi, e_meth, e_nil, e_cons, e_and1, e_and2, e_or1, e_or2, x_assign, x_setitem, x_expr, x_ret, x_ite, x_for, x_nil, x_cons, Bool.false_eq_true, if_false, items_tup, items_lst, items_rng, items_dct, lkV_tup, lkV_lst, lkV_rng, lkV_dct, lockV_tup, lockV_lst, lockV_rng, lockV_dct, unlk_ok, box_0, box_1, val_list, val_dict, obj_list, obj_dict, Nat.pred_zero, Nat.pred_succ, Nat.pred, Option.map_some, Bool.not_true, Bool.not_false, List.take_left, List.take_length, bind_ok, k_bin1, k_bin2, k_not, k_neg, k_cmp1, k_cmp2, k_tup, k_lst, k_idx1, k_idx2, k_comp1, k_compI, k_comp2, k_call, k_bi, k_meth1, k_methI, k_meth2, k_meth3, k_cons1, k_cons2, k_and, k_and_t, k_and_f, k_or, k_or_t, k_or_f, k_assign, k_set1, k_set2, k_set3, k_set4, k_expr, k_ret, k_if, k_if_t, k_if_f, k_for, k_forI, k_seq, k_seq_n, k_seq_r, List.getElem?_cons_zero, List.getElem?_cons_succ, List.set_cons_zero, List.set_cons_succ, fin_v, fin_f0, fin_f1, okB_some, truth_bool, constP_int, constP_str, constP_bool, constP_none, add_ii, sub_ii, lt_ii, gt_ii, le_ii, eq_ii, ne_ii, eq_ss, kill, List.foldl_cons, List.foldl_nil, setAll, bindT, tgtSlots, Flw.out, hv'.2.1, BM.ty, hv'.get]
      rw [show mv (fillAt F kv.1) = .tup ((fillAt F kv.1).map fun kv => .tup [.str kv.1, .int kv.2]) from rfl]
      simp only [runFn, List.length_cons, List.length_nil, Nat.reduceAdd, Nat.reduceSub, if_true, Nat.sub_self, Nat.sub_zero, List.replicate_zero, List.replicate_succ, List.replicate, List.append_nil, List.nil_append, List.cons_append, e_const, e_loc, e_and, e_or, e_bin, e_not, e_neg, e_cmp, e_tup, e_lst, e_edict, e_idx, e_comp, e_call, e_bi, e_meth, e_nil, e_cons, e_and1, e_and2, e_or1, e_or2, x_assign, x_setitem, x_expr, x_ret, x_ite, x_for, x_nil, x_cons, Bool.false_eq_true, if_false, items_tup, items_lst, items_rng, items_dct, lkV_tup, lkV_lst, lkV_rng, lkV_dct, lockV_tup, lockV_lst, lockV_rng, lockV_dct, unlk_ok, box_0, box_1, val_list, val_dict, obj_list, obj_dict, Nat.pred_zero, Nat.pred_succ, Nat.pred, Option.map_some, Bool.not_true, Bool.not_false, List.take_left, List.take_length, bind_ok, k_bin1, k_bin2, k_not, k_neg, k_cmp1, k_cmp2, k_tup, k_lst, k_idx1, k_idx2, k_comp1, k_compI, k_comp2, k_call, k_bi, k_meth1, k_methI, k_meth2, k_meth3, k_cons1, k_cons2, k_and, k_and_t, k_and_f, k_or, k_or_t, k_or_f, k_assign, k_set1, k_set2, k_set3, k_set4, k_expr, k_ret, k_if, k_if_t, k_if_f, k_for, k_forI, k_seq, k_seq_n, k_seq_r, List.getElem?_cons_zero, List.getElem?_cons_succ, List.set_cons_zero, List.set_cons_succ, fin_v, fin_f0, fin_f1, okB_some, truth_bool, constP_int, constP_str, constP_bool, constP_none, add_ii, sub_ii, lt_ii, gt_ii, le_ii, eq_ii, ne_ii, eq_ss, kill, List.foldl_cons, List.foldl_nil, setAll, bindT, tgtSlots, Flw.out]
      rw [lp2]
      simp only [runFn, List.length_cons, List.length_nil, Nat.reduceAdd, Nat.reduceSub, if_true, Nat.sub_self, Nat.sub_zero, List.replicate_zero, List.replicate_succ, List.replicate, List.append_nil, List.nil_append, List.cons_append, e_const, e_loc, e_and, e_or, e_bin, e_not, e_neg, e_cmp, e_tup, e_lst, e_edict, e_idx, e_comp, e_call, e_bi, e_meth, e_nil, e_cons, e_and1, e_and2, e_or1, e_or2, x_assign, x_setitem, x_expr, x_ret, x_ite, x_for, x_nil, x_cons, Bool.false_eq_true, if_false, items_tup, items_lst, items_rng, items_dct, lkV_tup, lkV_lst, lkV_rng, lkV_dct, lockV_tup, lockV_lst, lockV_rng, lockV_dct, unlk_ok, box_0, box_1, val_list, val_dict, obj_list, obj_dict, Nat.pred_zero, Nat.pred_succ, Nat.pred, Option.map_some, Bool.not_true, Bool.not_false, List.take_left, List.take_length, bind_ok, k_bin1, k_bin2, k_not, k_neg, k_cmp1, k_cmp2, k_tup, k_lst, k_idx1, k_idx2, k_comp1, k_compI, k_comp2, k_call, k_bi, k_meth1, k_methI, k_meth2, k_meth3, k_cons1, k_cons2, k_and, k_and_t, k_and_f, k_or, k_or_t, k_or_f, k_assign, k_set1, k_set2, k_set3, k_set4, k_expr, k_ret, k_if, k_if_t, k_if_f, k_for, k_forI, k_seq, k_seq_n, k_seq_r, List.getElem?_cons_zero, List.getElem?_cons_succ, List.set_cons_zero, List.set_cons_succ, fin_v, fin_f0, fin_f1, okB_some, truth_bool, constP_int, constP_str, constP_bool, constP_none, add_ii, sub_ii, lt_ii, gt_ii, le_ii, eq_ii, ne_ii, eq_ss, kill, List.foldl_cons, List.foldl_nil, setAll, bindT, tgtSlots, Flw.out]
    ) (ρ := [mv ms, v, .ref σ.length, .undef, .undef, .undef, .undef]) (D := []) (by simp) (by simp) rfl
  rw [callD_s fn_lfilled]
  unfold mv at lp e3 ⊢
  simp only [runFn, List.length_cons, List.length_nil, Nat.reduceAdd, Nat.reduceSub, if_true, Nat.sub_self, Nat.sub_zero, List.replicate_zero, List.replicate_succ, List.replicate, List.append_nil, List.nil_append, List.cons_append, e_const, e_loc, e_and, e_or, e_bin, e_not, e_neg, e_cmp, e_tup, e_lst, e_edict, e_idx, e_comp, e_call, e_bi, e_meth, e_nil, e_cons, e_and1, e_and2, e_or1, e_or2, x_assign, x_setitem, x_expr, x_ret, x_ite, x_for, x_nil, x_cons, Bool.false_eq_true, if_false, items_tup, items_lst, items_rng, items_dct, lkV_tup, lkV_lst, lkV_rng, lkV_dct, lockV_tup, lockV_lst, lockV_rng, lockV_dct, unlk_ok, box_0, box_1, val_list, val_dict, obj_list, obj_dict, Nat.pred_zero, Nat.pred_succ, Nat.pred, Option.map_some, Bool.not_true, Bool.not_false, List.take_left, List.take_length, bind_ok, k_bin1, k_bin2, k_not, k_neg, k_cmp1, k_cmp2, k_tup, k_lst, k_idx1, k_idx2, k_comp1, k_compI, k_comp2, k_call, k_bi, k_meth1, k_methI, k_meth2, k_meth3, k_cons1, k_cons2, k_and, k_and_t, k_and_f, k_or, k_or_t, k_or_f, k_assign, k_set1, k_set2, k_set3, k_set4, k_expr, k_ret, k_if, k_if_t, k_if_f, k_for, k_forI, k_seq, k_seq_n, k_seq_r, List.getElem?_cons_zero, List.getElem?_cons_succ, List.set_cons_zero, List.set_cons_succ, fin_v, fin_f0, fin_f1, okB_some, truth_bool, constP_int, constP_str, constP_bool, constP_none, add_ii, sub_ii, lt_ii, gt_ii, le_ii, eq_ii, ne_ii, eq_ss, kill, List.foldl_cons, List.foldl_nil, setAll, bindT, tgtSlots, Flw.out, F_law_filled]
  rw [show σ ++ [AObj.dict false []] = σ ++ [AObj.dict false (dv [])] from rfl, lp]
  simp only [runFn, List.length_cons, List.length_nil, Nat.reduceAdd, Nat.reduceSub, if_true, Nat.sub_self, Nat.sub_zero, List.replicate_zero, List.replicate_succ, List.replicate, List.append_nil, List.nil_append, List.cons_append, e_const, e_loc, e_and, e_or, e_bin, e_not, e_neg, e_cmp, e_tup, e_lst, e_edict, e_idx, e_comp, e_call, e_bi, e_meth, e_nil, e_cons, e_and1, e_and2, e_or1, e_or2, x_assign, x_setitem, x_expr, x_ret, x_ite, x_for, x_nil, x_cons, Bool.false_eq_true, if_false, items_tup, items_lst, items_rng, items_dct, lkV_tup, lkV_lst, lkV_rng, lkV_dct, lockV_tup, lockV_lst, lockV_rng, lockV_dct, unlk_ok, box_0, box_1, val_list, val_dict, obj_list, obj_dict, Nat.pred_zero, Nat.pred_succ, Nat.pred, Option.map_some, Bool.not_true, Bool.not_false, List.take_left, List.take_length, bind_ok, k_bin1, k_bin2, k_not, k_neg, k_cmp1, k_cmp2, k_tup, k_lst, k_idx1, k_idx2, k_comp1, k_compI, k_comp2, k_call, k_bi, k_meth1, k_methI, k_meth2, k_meth3, k_cons1, k_cons2, k_and, k_and_t, k_and_f, k_or, k_or_t, k_or_f, k_assign, k_set1, k_set2, k_set3, k_set4, k_expr, k_ret, k_if, k_if_t, k_if_f, k_for, k_forI, k_seq, k_seq_n, k_seq_r, List.getElem?_cons_zero, List.getElem?_cons_succ, List.set_cons_zero, List.set_cons_succ, fin_v, fin_f0, fin_f1, okB_some, truth_bool, constP_int, constP_str, constP_bool, constP_none, add_ii, sub_ii, lt_ii, gt_ii, le_ii, eq_ii, ne_ii, eq_ss, kill, List.foldl_cons, List.foldl_nil, setAll, bindT, tgtSlots, Flw.out]
  rw [e3]
  simp only [runFn, List.length_cons, List.length_nil, Nat.reduceAdd, Nat.reduceSub, if_true, Nat.sub_self, Nat.sub_zero, List.replicate_zero, List.replicate_succ, List.replicate, List.append_nil, List.nil_append, List.cons_append, e_const, e_loc, e_and, e_or, e_bin, e_not, e_neg, e_cmp, e_tup, e_lst, e_edict, e_idx, e_comp, e_call, e_bi, e_meth, e_nil, e_cons, e_and1, e_and2, e_or1, e_or2, x_assign, x_setitem, x_expr, x_ret, x_ite, x_for, x_nil, x_cons, Bool.false_eq_true, if_false, items_tup, items_lst, items_rng, items_dct, lkV_tup, lkV_lst, lkV_rng, lkV_dct, lockV_tup, lockV_lst, lockV_rng, lockV_dct, unlk_ok, box_0, box_1, val_list, val_dict, obj_list, obj_dict, Nat.pred_zero, Nat.pred_succ, Nat.pred, Option.map_some, Bool.not_true, Bool.not_false, List.take_left, List.take_length, bind_ok, k_bin1, k_bin2, k_not, k_neg, k_cmp1, k_cmp2, k_tup, k_lst, k_idx1, k_idx2, k_comp1, k_compI, k_comp2, k_call, k_bi, k_meth1, k_methI, k_meth2, k_meth3, k_cons1, k_cons2, k_and, k_and_t, k_and_f, k_or, k_or_t, k_or_f, k_assign, k_set1, k_set2, k_set3, k_set4, k_expr, k_ret, k_if, k_if_t, k_if_f, k_for, k_forI, k_seq, k_seq_n, k_seq_r, List.getElem?_cons_zero, List.getElem?_cons_succ, List.set_cons_zero, List.set_cons_succ, fin_v, fin_f0, fin_f1, okB_some, truth_bool, constP_int, constP_str, constP_bool, constP_none, add_ii, sub_ii, lt_ii, gt_ii, le_ii, eq_ii, ne_ii, eq_ss, kill, List.foldl_cons, List.foldl_nil, setAll, bindT, tgtSlots, Flw.out]
  have h5 := mv_pure (madeL (fillF F [] ms))
  unfold mv at h5
  rw [frz_pure h5]

theorem eq_mv (σ : AH) (x : DI) : cmpP σ .Eq (mv x) (mv x) = some true := by
  show eqV (mv x) (mv x) = some true
  unfold eqV
  rw [mv_plain, pvEq_refl _ (mv_pure x)]; rfl
theorem fv_plain (F : DF) : plainD (fv F) = true := by
  unfold plainD fv
  rw [List.all_map, List.all_eq_true]
  intro kv _
  exact mv_plain _
theorem fv_eq {F : DF} (hn : (F.map (·.1)).Nodup) : dctEq (fv F) (fv F) = true := by
  unfold dctEq
  rw [beq_self_eq_true, Bool.true_and, List.all_eq_true]
  intro kv hkv
  have hn' : ((fv F).map (·.1)).Nodup := by unfold fv; rw [List.map_map]; exact hn
  have : dget (fv F) kv.1 = some kv.2 := dget_mem hn' hkv
  rw [this]
  obtain ⟨q, _, rfl⟩ := List.mem_map.mp hkv
  exact pvEq_refl _ (mv_pure _)
theorem ne_fv {σ : AH} {i : Nat} {F : DF} {b : Bool} (hn : (F.map (·.1)).Nodup) (h : σ[i]? = some (.dict b (fv F))) : cmpP σ .NotEq (.dct (fv F)) (.ref i) = some false := by
  show (both dctOf dctOf (PV.dct (fv F)) (deref σ (.ref i)) _ _).map (!·) = some false
  rw [deref_d h]
  show (if plainD (fv F) && plainD (fv F) then some (dctEq (fv F) (fv F)) else none).map (!·) = some false
  rw [fv_plain, fv_eq hn]; rfl
theorem set_fv {σ : AH} {i : Nat} {F : DF} (h : σ[i]? = some (.dict false (fv F))) (hl : F.length ≤ 1000000) (k : Str) (m : DI) : setAt σ (.ref i) (.str k) (mv m) = some (σ.set i (.dict false (fv (dput F k m)))) := by
  show (openD σ i).bind _ = _
  rw [openD_of h, ← fv_put]
  exact if_pos (decide_eq_true (fv_len F ▸ hl))
theorem FOk.put {ls : List Str} {F : DF} (h : FOk ls F) {k : Str} (hk : k ∈ ls) {m : DI} (hm : MOk ls (10 ^ 20) m) : FOk ls (dput F k m) := by
  refine ⟨dput_nodup h.1, fun x hx => ?_, fun kv hkv => ?_⟩
  · rcases dput_mem.mp hx with rfl | q
    · exact hk
    · exact h.2.1 x q
  · have e : dget (dput F k m) kv.1 = some kv.2 := dget_mem (dput_nodup h.1) hkv
    rw [dget_put] at e
    split at e
    · cases e; exact hm
    · exact h.2.2 _ (mem_of_dget e)
theorem FOk.len {ls : List Str} {F : DF} (h : FOk ls F) : F.length ≤ ls.length := by
  have := mem_of_nodup_le h.1 h.2.1
  rwa [List.length_map] at this

theorem plain02 (ns : List Int) (h : ns.length ≤ 63) : callD G 41 "law" [.lst (ns.map .int)] [] = .ok (.bool true) [] := by
  have c0 := cell_at h 0 (by decide) 39 []
  have c1 := cell_at h 1 (by decide) 39 []
  have c2 := cell_at h 2 (by decide) 39 []
  have c3 := fun σ => cell_at h 3 (by decide) 39 σ
  have b1 := fmod_bd (cellAt ns 1) (n := 40) (by decide)
  have z40 : (40 : Int) ≠ 0 := by decide
  have z9 : (9 : Int) ≠ 0 := by decide
  have z3 : (3 : Int) ≠ 0 := by decide
  have z97 : (97 : Int) ≠ 0 := by decide
  obtain ⟨m, hm⟩ : ∃ m : Nat, 1 + (cellAt ns 1).fmod 40 = m := ⟨(1 + (cellAt ns 1).fmod 40).toNat, by omega⟩
  obtain ⟨ls, hl1, hls, hl2⟩ := run_letters (cellAt ns 0) m (by omega) 38 []
  have h80 : ls.length ≤ 80 := by omega
  obtain ⟨a, ha, ra⟩ := run_measure (cellAt ns 2) (ls := ls) (by omega) h80 hls 38 []
  simp only [Int.natCast_zero, Int.natCast_one, Int.cast_ofNat_Int] at c0 c1 c2 c3
  rw [callD_s fn_law]
  obtain ⟨la, ea⟩ : ∃ l, mv a = .tup l := ⟨_, rfl⟩
  have eal : la = a.map fun kv => .tup [.str kv.1, .int kv.2] := by unfold mv at ea; injection ea with e; exact e.symm
  have run : ∃ ρ' o, execs { gl := G.const, cal := callD G 40 } F_law.body [.lst (ns.map .int), .undef, .undef, .undef, .undef, .undef, .undef, .undef, .undef] [] = .ok (.ret (.bool true), ρ') ([] ++ [o]) := by
    have s0 : exec { gl := G.const, cal := callD G 40 } (headS (dropS 0 F_law.body)) [.lst (ns.map .int), .undef, .undef, .undef, .undef, .undef, .undef, .undef, .undef] [] = .ok (.next, [.lst (ns.map .int), .lst (ls.map .str), .undef, .undef, .undef, .undef, .undef, .undef, .undef]) [] := by
      simp only [runFn, List.length_cons, List.length_nil, Nat.reduceAdd, Nat.reduceSub, if_true, Nat.sub_self, Nat.sub_zero, List.replicate_zero, List.replicate_succ, List.replicate, List.append_nil, List.nil_append, List.cons_append, e_const, e_loc, e_and, e_or, e_bin, e_not, e_neg, e_cmp, e_tup, e_lst, e_edict, e_idx, e_comp, e_call, e_bi, e_meth, e_nil, e_cons, e_and1, e_and2, e_or1, e_or2, x_assign, x_setitem, x_expr, x_ret, x_ite, x_for, x_nil, x_cons, Bool.false_eq_true, if_false, items_tup, items_lst, items_rng, items_dct, lkV_tup, lkV_lst, lkV_rng, lkV_dct, lockV_tup, lockV_lst, lockV_rng, lockV_dct, unlk_ok, box_0, box_1, val_list, val_dict, obj_list, obj_dict, Nat.pred_zero, Nat.pred_succ, Nat.pred, Option.map_some, Bool.not_true, Bool.not_false, List.take_left, List.take_length, bind_ok, k_bin1, k_bin2, k_not, k_neg, k_cmp1, k_cmp2, k_tup, k_lst, k_idx1, k_idx2, k_comp1, k_compI, k_comp2, k_call, k_bi, k_meth1, k_methI, k_meth2, k_meth3, k_cons1, k_cons2, k_and, k_and_t, k_and_f, k_or, k_or_t, k_or_f, k_assign, k_set1, k_set2, k_set3, k_set4, k_expr, k_ret, k_if, k_if_t, k_if_f, k_for, k_forI, k_seq, k_seq_n, k_seq_r, List.getElem?_cons_zero, List.getElem?_cons_succ, List.set_cons_zero, List.set_cons_succ, fin_v, fin_f0, fin_f1, okB_some, truth_bool, constP_int, constP_str, constP_bool, constP_none, add_ii, sub_ii, lt_ii, gt_ii, le_ii, eq_ii, ne_ii, eq_ss, kill, List.foldl_cons, List.foldl_nil, setAll, bindT, tgtSlots, Flw.out, F_law, dropS, headS, c0, c1, mod_ii _ _ _ z40, hm, hl2]
    have s1 : exec { gl := G.const, cal := callD G 40 } (headS (dropS 1 F_law.body)) [.lst (ns.map .int), .lst (ls.map .str), .undef, .undef, .undef, .undef, .undef, .undef, .undef] [] = .ok (.next, [.lst (ns.map .int), .lst (ls.map .str), mv a, .undef, .undef, .undef, .undef, .undef, .undef]) [] := by
      simp only [runFn, List.length_cons, List.length_nil, Nat.reduceAdd, Nat.reduceSub, if_true, Nat.sub_self, Nat.sub_zero, List.replicate_zero, List.replicate_succ, List.replicate, List.append_nil, List.nil_append, List.cons_append, e_const, e_loc, e_and, e_or, e_bin, e_not, e_neg, e_cmp, e_tup, e_lst, e_edict, e_idx, e_comp, e_call, e_bi, e_meth, e_nil, e_cons, e_and1, e_and2, e_or1, e_or2, x_assign, x_setitem, x_expr, x_ret, x_ite, x_for, x_nil, x_cons, Bool.false_eq_true, if_false, items_tup, items_lst, items_rng, items_dct, lkV_tup, lkV_lst, lkV_rng, lkV_dct, lockV_tup, lockV_lst, lockV_rng, lockV_dct, unlk_ok, box_0, box_1, val_list, val_dict, obj_list, obj_dict, Nat.pred_zero, Nat.pred_succ, Nat.pred, Option.map_some, Bool.not_true, Bool.not_false, List.take_left, List.take_length, bind_ok, k_bin1, k_bin2, k_not, k_neg, k_cmp1, k_cmp2, k_tup, k_lst, k_idx1, k_idx2, k_comp1, k_compI, k_comp2, k_call, k_bi, k_meth1, k_methI, k_meth2, k_meth3, k_cons1, k_cons2, k_and, k_and_t, k_and_f, k_or, k_or_t, k_or_f, k_assign, k_set1, k_set2, k_set3, k_set4, k_expr, k_ret, k_if, k_if_t, k_if_f, k_for, k_forI, k_seq, k_seq_n, k_seq_r, List.getElem?_cons_zero, List.getElem?_cons_succ, List.set_cons_zero, List.set_cons_succ, fin_v, fin_f0, fin_f1, okB_some, truth_bool, constP_int, constP_str, constP_bool, constP_none, add_ii, sub_ii, lt_ii, gt_ii, le_ii, eq_ii, ne_ii, eq_ss, kill, List.foldl_cons, List.foldl_nil, setAll, bindT, tgtSlots, Flw.out, F_law, dropS, headS, c2, ra]
    have s2 : exec { gl := G.const, cal := callD G 40 } (headS (dropS 2 F_law.body)) [.lst (ns.map .int), .lst (ls.map .str), mv a, .undef, .undef, .undef, .undef, .undef, .undef] [] = .ok (.next, [.lst (ns.map .int), .lst (ls.map .str), mv a, .ref 0, .undef, .undef, .undef, .undef, .undef]) [.dict false (fv [])] := by
      simp only [runFn, List.length_cons, List.length_nil, Nat.reduceAdd, Nat.reduceSub, if_true, Nat.sub_self, Nat.sub_zero, List.replicate_zero, List.replicate_succ, List.replicate, List.append_nil, List.nil_append, List.cons_append, e_const, e_loc, e_and, e_or, e_bin, e_not, e_neg, e_cmp, e_tup, e_lst, e_edict, e_idx, e_comp, e_call, e_bi, e_meth, e_nil, e_cons, e_and1, e_and2, e_or1, e_or2, x_assign, x_setitem, x_expr, x_ret, x_ite, x_for, x_nil, x_cons, Bool.false_eq_true, if_false, items_tup, items_lst, items_rng, items_dct, lkV_tup, lkV_lst, lkV_rng, lkV_dct, lockV_tup, lockV_lst, lockV_rng, lockV_dct, unlk_ok, box_0, box_1, val_list, val_dict, obj_list, obj_dict, Nat.pred_zero, Nat.pred_succ, Nat.pred, Option.map_some, Bool.not_true, Bool.not_false, List.take_left, List.take_length, bind_ok, k_bin1, k_bin2, k_not, k_neg, k_cmp1, k_cmp2, k_tup, k_lst, k_idx1, k_idx2, k_comp1, k_compI, k_comp2, k_call, k_bi, k_meth1, k_methI, k_meth2, k_meth3, k_cons1, k_cons2, k_and, k_and_t, k_and_f, k_or, k_or_t, k_or_f, k_assign, k_set1, k_set2, k_set3, k_set4, k_expr, k_ret, k_if, k_if_t, k_if_f, k_for, k_forI, k_seq, k_seq_n, k_seq_r, List.getElem?_cons_zero, List.getElem?_cons_succ, List.set_cons_zero, List.set_cons_succ, fin_v, fin_f0, fin_f1, okB_some, truth_bool, constP_int, constP_str, constP_bool, constP_none, add_ii, sub_ii, lt_ii, gt_ii, le_ii, eq_ii, ne_ii, eq_ss, kill, List.foldl_cons, List.foldl_nil, setAll, bindT, tgtSlots, Flw.out, F_law, dropS, headS]; rfl
    have s3 : ∃ F, FOk ls F ∧ exec { gl := G.const, cal := callD G 40 } (headS (dropS 3 F_law.body)) [.lst (ns.map .int), .lst (ls.map .str), mv a, .ref 0, .undef, .undef, .undef, .undef, .undef] [.dict false (fv [])] = .ok (.next, [.lst (ns.map .int), .lst (ls.map .str), mv a, .ref 0, .undef, .undef, .undef, .undef, .undef]) [.dict false (fv F)] := by
      have b3 := fmod_bd (cellAt ns 3) (n := 9) (by decide)
      obtain ⟨n, hn⟩ : ∃ n : Nat, (cellAt ns 3).fmod 9 = n := ⟨((cellAt ns 3).fmod 9).toNat, by omega⟩
      obtain ⟨σ', f1, F, f2, f3⟩ := forL_const (body := execs { gl := G.const, cal := callD G 40 } (.cons (.assign 5 0 (.call "_law_cell_at" (.cons (.loc 0) (.cons (.bin .Add (.const (.int 4)) (.loc 4)) .nil)))) (.cons (.assign 6 0 (.idx (.loc 1) (.bin .Mod (.loc 5) (.bi .len (.cons (.loc 1) .nil))))) (.cons (.ite (.andE (.cons (.cmp .Eq (.bin .Mod (.bin .FloorDiv (.loc 5) (.const (.int 97))) (.const (.int 3))) (.const (.int 0))) (.cons (.cmp .Gt (.bi .len (.cons (.loc 2) .nil)) (.const (.int 0))) .nil))) (.cons (.assign 6 0 (.idx (.idx (.loc 2) (.bin .Mod (.loc 5) (.bi .len (.cons (.loc 2) .nil)))) (.const (.int 0)))) .nil) .nil) (.cons (.setitem (.loc 3) (.loc 6) 0 (.call "_law_measure" (.cons (.call "_law_mix" (.cons (.loc 5) (.cons (.loc 4) .nil))) (.cons (.loc 1) .nil)))) .nil))))) (t := .one 4) (ks := [4, 5, 6])
        (ρ0 := [.lst (ns.map .int), .lst (ls.map .str), mv a, .ref 0, .undef, .undef, .undef, .undef, .undef]) (fun k σ' => ∃ F, FOk ls F ∧ σ' = [.dict false (fv F)]) (rngInts 0 n)
        (ρ := [.lst (ns.map .int), .lst (ls.map .str), mv a, .ref 0, .undef, .undef, .undef, .undef, .undef]) (σ := [.dict false (fv [])]) (by
        rintro k x σ' hx ⟨F, hF, rfl⟩
        obtain ⟨rfl, hkm⟩ := rng_get hx
        have ck := cell_at h (4 + k) (by omega) 39 [AObj.dict false (fv F)]
        rw [Int.natCast_add, show ((4 : Nat) : Int) = 4 from rfl] at ck
        have hc0 := cellAt_ge ns (4 + k)
        generalize cellAt ns (4 + k) = cell at *
        have zl : (ls.length : Int) ≠ 0 := by omega
        obtain ⟨j, hj, ej⟩ := fmod_toNat cell (n := ls.length) (by omega)
        obtain ⟨w0, hw0⟩ : ∃ w0, ls[j]? = some w0 := ⟨ls[j], by simp [hj]⟩
        have hmem := List.mem_of_getElem? hw0
        have i1 := idx_lst [AObj.dict false (fv F)] (ls.map .str) j (.str w0) (by omega) (by simp [hw0])
        rw [← ej] at i1
        have ln := len_lst [AObj.dict false (fv F)] (ls.map .str) (by simp; omega)
        rw [List.length_map] at ln
        have hal := ha.len
        have lna := len_tup [AObj.dict false (fv F)] la (by rw [eal]; simp; omega)
        have lal : la.length = a.length := by rw [eal]; simp
        rw [lal] at lna
        have mx := run_mix cell (k : Int) 39 [AObj.dict false (fv F)]
        obtain ⟨mm, hmm, rmm⟩ := run_measure (mix cell k) (ls := ls) (by omega) h80 hls 38 [AObj.dict false (fv F)]
        have hFl := hF.len
        have g0 : ([AObj.dict false (fv F)] : AH)[0]? = some (.dict false (fv F)) := rfl
        rw [ea]
        by_cases hcond : (cell.fdiv 97).fmod 3 = 0 ∧ 0 < a.length
        · have q1 : ((cell.fdiv 97).fmod 3 == 0) = true := by simpa using hcond.1
          have q2 : decide ((a.length : Int) > 0) = true := by simp; omega
          have za : (a.length : Int) ≠ 0 := by omega
          obtain ⟨i, hi, ei⟩ := fmod_toNat cell (n := a.length) hcond.2
          obtain ⟨kv, hkv⟩ : ∃ kv, a[i]? = some kv := ⟨a[i], by simp [hi]⟩
          have i2 := idx_tup [AObj.dict false (fv F)] la i (.tup [.str kv.1, .int kv.2]) (by omega) (by rw [eal]; simp [hkv])
          rw [← ei] at i2
          have i3 : getAt [AObj.dict false (fv F)] (.tup [.str kv.1, .int kv.2]) (.int 0) = some (.v (.str kv.1)) := rfl
          refine ⟨_, [.lst (ns.map .int), .lst (ls.map .str), .tup la, .ref 0, .int k, .int cell, .str kv.1, .undef, .undef], [.dict false (fv (dput F kv.1 mm))], rfl, ?_, rfl, ⟨_, hF.put (ha.keys kv.1 (List.mem_map.mpr ⟨kv, List.mem_of_getElem? hkv, rfl⟩)) hmm, rfl⟩⟩
          simp only [runFn, List.length_cons, List.length_nil, Nat.reduceAdd, Nat.reduceSub, if_true, Nat.sub_self, Nat.sub_zero, List.replicate_zero, List.replicate_succ, List.replicate, List.append_nil, List.nil_append, List.cons_append, e_const, e_loc, e_and, e_or, e_bin, e_not, e_neg, e_cmp, e_tup, e_lst, e_edict, e_idx, e_comp, e_call, e_bi, e_meth, e_nil, e_cons, e_and1, e_and2, e_or1, e_or2, x_assign, x_setitem, x_expr, x_ret, x_ite, x_for, x_nil, x_cons, Bool.false_eq_true, if_false, items_tup, items_lst, items_rng, items_dct, lkV_tup, lkV_lst, lkV_rng, lkV_dct, lockV_tup, lockV_lst, lockV_rng, lockV_dct, unlk_ok, box_0, box_1, val_list, val_dict, obj_list, obj_dict, Nat.pred_zero, Nat.pred_succ, Nat.pred, Option.map_some, Bool.not_true, Bool.not_false, List.take_left, List.take_length, bind_ok, k_bin1, k_bin2, k_not, k_neg, k_cmp1, k_cmp2, k_tup, k_lst, k_idx1, k_idx2, k_comp1, k_compI, k_comp2, k_call, k_bi, k_meth1, k_methI, k_meth2, k_meth3, k_cons1, k_cons2, k_and, k_and_t, k_and_f, k_or, k_or_t, k_or_f, k_assign, k_set1, k_set2, k_set3, k_set4, k_expr, k_ret, k_if, k_if_t, k_if_f, k_for, k_forI, k_seq, k_seq_n, k_seq_r, List.getElem?_cons_zero, List.getElem?_cons_succ, List.set_cons_zero, List.set_cons_succ, fin_v, fin_f0, fin_f1, okB_some, truth_bool, constP_int, constP_str, constP_bool, constP_none, add_ii, sub_ii, lt_ii, gt_ii, le_ii, eq_ii, ne_ii, eq_ss, kill, List.foldl_cons, List.foldl_nil, setAll, bindT, tgtSlots, Flw.out, ck, ln, lna, mod_ii _ _ _ zl, i1, div_ii _ _ _ z97, mod_ii _ _ _ z3, q1, q2, mod_ii _ _ _ za, i2, i3, mx, rmm, set_fv g0 (show F.length ≤ 1000000 by omega)]
        · refine ⟨_, [.lst (ns.map .int), .lst (ls.map .str), .tup la, .ref 0, .int k, .int cell, .str w0, .undef, .undef], [.dict false (fv (dput F w0 mm))], rfl, ?_, rfl, ⟨_, hF.put hmem hmm, rfl⟩⟩
          by_cases hc1 : (cell.fdiv 97).fmod 3 = 0
          · have q1 : ((cell.fdiv 97).fmod 3 == 0) = true := by simpa using hc1
            have q0 : ¬ 0 < a.length := fun q => hcond ⟨hc1, q⟩
            have q2 : decide ((a.length : Int) > 0) = false := decide_eq_false (by omega)
            simp only [runFn, List.length_cons, List.length_nil, Nat.reduceAdd, Nat.reduceSub, if_true, Nat.sub_self, Nat.sub_zero, List.replicate_zero, List.replicate_succ, List.replicate, List.append_nil, List.nil_append, List.cons_append, e_const, e_loc, e_and, e_or, e_bin, e_not, e_neg, e_cmp, e_tup, e_lst, e_edict, e_idx, e_comp, e_call, e_bi, e_meth, e_nil, e_cons, e_and1, e_and2, e_or1, e_or2, x_assign, x_setitem, x_expr, x_ret, x_ite, x_for, x_nil, x_cons, Bool.false_eq_true, if_false, items_tup, items_lst, items_rng, items_dct, lkV_tup, lkV_lst, lkV_rng, lkV_dct, lockV_tup, lockV_lst, lockV_rng, lockV_dct, unlk_ok, box_0, box_1, val_list, val_dict, obj_list, obj_dict, Nat.pred_zero, Nat.pred_succ, Nat.pred, Option.map_some, Bool.not_true, Bool.not_false, List.take_left, List.take_length, bind_ok, k_bin1, k_bin2, k_not, k_neg, k_cmp1, k_cmp2, k_tup, k_lst, k_idx1, k_idx2, k_comp1, k_compI, k_comp2, k_call, k_bi, k_meth1, k_methI, k_meth2, k_meth3, k_cons1, k_cons2, k_and, k_and_t, k_and_f, k_or, k_or_t, k_or_f, k_assign, k_set1, k_set2, k_set3, k_set4, k_expr, k_ret, k_if, k_if_t, k_if_f, k_for, k_forI, k_seq, k_seq_n, k_seq_r, List.getElem?_cons_zero, List.getElem?_cons_succ, List.set_cons_zero, List.set_cons_succ, fin_v, fin_f0, fin_f1, okB_some, truth_bool, constP_int, constP_str, constP_bool, constP_none, add_ii, sub_ii, lt_ii, gt_ii, le_ii, eq_ii, ne_ii, eq_ss, kill, List.foldl_cons, List.foldl_nil, setAll, bindT, tgtSlots, Flw.out, ck, ln, lna, mod_ii _ _ _ zl, i1, div_ii _ _ _ z97, mod_ii _ _ _ z3, q1, q2, mx, rmm, set_fv g0 (show F.length ≤ 1000000 by omega)]
          · have q1 : ((cell.fdiv 97).fmod 3 == 0) = false := by simpa using hc1
            simp only [runFn, List.length_cons, List.length_nil, Nat.reduceAdd, Nat.reduceSub, if_true, Nat.sub_self, Nat.sub_zero, List.replicate_zero, List.replicate_succ, List.replicate, List.append_nil, List.nil_append, List.cons_append, e_const, e_loc, e_and, e_or, e_bin, e_not, e_neg, e_cmp, e_tup, e_lst, e_edict, e_idx, e_comp, e_call, e_bi, e_meth, e_nil, e_cons, e_and1, e_and2, e_or1, e_or2, x_assign, x_setitem, x_expr, x_ret, x_ite, x_for, x_nil, x_cons, Bool.false_eq_true, if_false, items_tup, items_lst, items_rng, items_dct, lkV_tup, lkV_lst, lkV_rng, lkV_dct, lockV_tup, lockV_lst, lockV_rng, lockV_dct, unlk_ok, box_0, box_1, val_list, val_dict, obj_list, obj_dict, Nat.pred_zero, Nat.pred_succ, Nat.pred, Option.map_some, Bool.not_true, Bool.not_false, List.take_left, List.take_length, bind_ok, k_bin1, k_bin2, k_not, k_neg, k_cmp1, k_cmp2, k_tup, k_lst, k_idx1, k_idx2, k_comp1, k_compI, k_comp2, k_call, k_bi, k_meth1, k_methI, k_meth2, k_meth3, k_cons1, k_cons2, k_and, k_and_t, k_and_f, k_or, k_or_t, k_or_f, k_assign, k_set1, k_set2, k_set3, k_set4, k_expr, k_ret, k_if, k_if_t, k_if_f, k_for, k_forI, k_seq, k_seq_n, k_seq_r, List.getElem?_cons_zero, List.getElem?_cons_succ, List.set_cons_zero, List.set_cons_succ, fin_v, fin_f0, fin_f1, okB_some, truth_bool, constP_int, constP_str, constP_bool, constP_none, add_ii, sub_ii, lt_ii, gt_ii, le_ii, eq_ii, ne_ii, eq_ss, kill, List.foldl_cons, List.foldl_nil, setAll, bindT, tgtSlots, Flw.out, ck, ln, lna, mod_ii _ _ _ zl, i1, div_ii _ _ _ z97, mod_ii _ _ _ z3, q1, mx, rmm, set_fv g0 (show F.length ≤ 1000000 by omega)]) rfl ⟨[], ⟨by simp, by simp, by simp⟩, rfl⟩
      refine ⟨F, f2, ?_⟩
      simp only [runFn, List.length_cons, List.length_nil, Nat.reduceAdd, Nat.reduceSub, if_true, Nat.sub_self, Nat.sub_zero, List.replicate_zero, List.replicate_succ, List.replicate, List.append_nil, List.nil_append, List.cons_append, e_const, e_loc, e_and, e_or, e_bin, e_not, e_neg, e_cmp, e_tup, e_lst, e_edict, e_idx, e_comp, e_call, e_bi, e_meth, e_nil, e_cons, e_and1, e_and2, e_or1, e_or2, x_assign, x_setitem, x_expr, x_ret, x_ite, x_for, x_nil, x_cons, Bool.false_eq_true, if_false, items_tup, items_lst, items_rng, items_dct, lkV_tup, lkV_lst, lkV_rng, lkV_dct, lockV_tup, lockV_lst, lockV_rng, lockV_dct, unlk_ok, box_0, box_1, val_list, val_dict, obj_list, obj_dict, Nat.pred_zero, Nat.pred_succ, Nat.pred, Option.map_some, Bool.not_true, Bool.not_false, List.take_left, List.take_length, bind_ok, k_bin1, k_bin2, k_not, k_neg, k_cmp1, k_cmp2, k_tup, k_lst, k_idx1, k_idx2, k_comp1, k_compI, k_comp2, k_call, k_bi, k_meth1, k_methI, k_meth2, k_meth3, k_cons1, k_cons2, k_and, k_and_t, k_and_f, k_or, k_or_t, k_or_f, k_assign, k_set1, k_set2, k_set3, k_set4, k_expr, k_ret, k_if, k_if_t, k_if_f, k_for, k_forI, k_seq, k_seq_n, k_seq_r, List.getElem?_cons_zero, List.getElem?_cons_succ, List.set_cons_zero, List.set_cons_succ, fin_v, fin_f0, fin_f1, okB_some, truth_bool, constP_int, constP_str, constP_bool, constP_none, add_ii, sub_ii, lt_ii, gt_ii, le_ii, eq_ii, ne_ii, eq_ss, kill, List.foldl_cons, List.foldl_nil, setAll, bindT, tgtSlots, Flw.out, F_law, dropS, headS, c3, mod_ii _ _ _ z9, hn, range_0 _ (show (n : Int).natAbs ≤ 1000000 by omega)]
      rw [f1, f3]
      simp only [runFn, List.length_cons, List.length_nil, Nat.reduceAdd, Nat.reduceSub, if_true, Nat.sub_self, Nat.sub_zero, List.replicate_zero, List.replicate_succ, List.replicate, List.append_nil, List.nil_append, List.cons_append, e_const, e_loc, e_and, e_or, e_bin, e_not, e_neg, e_cmp, e_tup, e_lst, e_edict, e_idx, e_comp, e_call, e_bi, e_meth, e_nil, e_cons, e_and1, e_and2, e_or1, e_or2, x_assign, x_setitem, x_expr, x_ret, x_ite, x_for, x_nil, x_cons, Bool.false_eq_true, if_false, items_tup, items_lst, items_rng, items_dct, lkV_tup, lkV_lst, lkV_rng, lkV_dct, lockV_tup, lockV_lst, lockV_rng, lockV_dct, unlk_ok, box_0, box_1, val_list, val_dict, obj_list, obj_dict, Nat.pred_zero, Nat.pred_succ, Nat.pred, Option.map_some, Bool.not_true, Bool.not_false, List.take_left, List.take_length, bind_ok, k_bin1, k_bin2, k_not, k_neg, k_cmp1, k_cmp2, k_tup, k_lst, k_idx1, k_idx2, k_comp1, k_compI, k_comp2, k_call, k_bi, k_meth1, k_methI, k_meth2, k_meth3, k_cons1, k_cons2, k_and, k_and_t, k_and_f, k_or, k_or_t, k_or_f, k_assign, k_set1, k_set2, k_set3, k_set4, k_expr, k_ret, k_if, k_if_t, k_if_f, k_for, k_forI, k_seq, k_seq_n, k_seq_r, List.getElem?_cons_zero, List.getElem?_cons_succ, List.set_cons_zero, List.set_cons_succ, fin_v, fin_f0, fin_f1, okB_some, truth_bool, constP_int, constP_str, constP_bool, constP_none, add_ii, sub_ii, lt_ii, gt_ii, le_ii, eq_ii, ne_ii, eq_ss, kill, List.foldl_cons, List.foldl_nil, setAll, bindT, tgtSlots, Flw.out]
    obtain ⟨F, hF, s3⟩ := s3
    have hFl := hF.len
    have g0 : ([AObj.dict false (fv F)] : AH)[0]? = some (.dict false (fv F)) := rfl
    have di : biP [AObj.dict false (fv F)] .dict [.ref 0] = some (.f (.dict (fv F))) := if_pos (decide_eq_true (show (fv F).length ≤ 1000000 by rw [fv_len]; omega))
    have IF1 : IsF [AObj.dict false (fv F)] (.dct (fv F)) F := ⟨rfl, rfl, by simp⟩
    have IF2 : IsF [AObj.dict false (fv F)] (.ref 0) F := ⟨rfl, rfl, by simp⟩
    have IF0 : IsF [AObj.dict false (fv F)] (.dct []) [] := ⟨rfl, rfl, by simp⟩
    have r1 := run_filled hF h80 ha.keys ha.bd IF1 38
    have r2 := run_lfilled hF h80 ha.keys ha.bd IF2 38
    have r3 := run_filled (ls := ls) (F := []) ⟨by simp, by simp, by simp⟩ h80 ha.keys ha.bd IF0 38
    have r4 := run_filled hF h80 (ms := []) (by simp) (by simp) IF1 38
    rw [fillF_nil ha.meas.nodup, madeL_fix ha.meas] at r3
    rw [show fillF F [] [] = [] from rfl, show madeL [] = [] from madeL_fix ⟨.nil, by simp⟩, show mv [] = .tup [] from rfl] at r4
    have ok := fillF_ok hF a [] ha.keys (by simp) (by simp)
    have hM : Meas (madeL (fillF F [] a)) := madeL_meas ok.1 fun k hk => (hls k (ok.2 k hk)).ne
    have r5 := run_ism hM 38 [AObj.dict false (fv F)]
    have n1 := ne_mv [AObj.dict false (fv F)] (madeL (fillF F [] a))
    have n2 := ne_fv hF.1 g0
    have n3 := eq_mv [AObj.dict false (fv F)] a
    have n4 : cmpP [AObj.dict false (fv F)] .Eq (.tup []) (.tup []) = some true := eq_mv _ []
    obtain ⟨lf, ef⟩ : ∃ l, mv (madeL (fillF F [] a)) = .tup l := ⟨_, rfl⟩
    rw [ef] at r1 r2 r5 n1
    rw [ea] at r1 r2 r3 n3 s1 s2 s3
    have fin : execs { gl := G.const, cal := callD G 40 } (dropS 4 F_law.body) [.lst (ns.map .int), .lst (ls.map .str), .tup la, .ref 0, .undef, .undef, .undef, .undef, .undef] [.dict false (fv F)] = .ok (.ret (.bool true), [.lst (ns.map .int), .lst (ls.map .str), .tup la, .ref 0, .undef, .undef, .undef, .dct (fv F), .tup lf]) [.dict false (fv F)] := by
      simp only [runFn, List.length_cons, List.length_nil, Nat.reduceAdd, Nat.reduceSub, if_true, Nat.sub_self, Nat.sub_zero, List.replicate_zero, List.replicate_succ, List.replicate, List.append_nil, List.nil_append, List.cons_append, e_const, e_loc, e_and, e_or, e_bin, e_not, e_neg, e_cmp, e_tup, e_lst, e_edict, e_idx, e_comp, e_call, e_bi, e_meth, e_nil, e_cons, e_and1, e_and2, e_or1, e_or2, x_assign, x_setitem, x_expr, x_ret, x_ite, x_for, x_nil, x_cons, Bool.false_eq_true, if_false, items_tup, items_lst, items_rng, items_dct, lkV_tup, lkV_lst, lkV_rng, lkV_dct, lockV_tup, lockV_lst, lockV_rng, lockV_dct, unlk_ok, box_0, box_1, val_list, val_dict, obj_list, obj_dict, Nat.pred_zero, Nat.pred_succ, Nat.pred, Option.map_some, Bool.not_true, Bool.not_false, List.take_left, List.take_length, bind_ok, k_bin1, k_bin2, k_not, k_neg, k_cmp1, k_cmp2, k_tup, k_lst, k_idx1, k_idx2, k_comp1, k_compI, k_comp2, k_call, k_bi, k_meth1, k_methI, k_meth2, k_meth3, k_cons1, k_cons2, k_and, k_and_t, k_and_f, k_or, k_or_t, k_or_f, k_assign, k_set1, k_set2, k_set3, k_set4, k_expr, k_ret, k_if, k_if_t, k_if_f, k_for, k_forI, k_seq, k_seq_n, k_seq_r, List.getElem?_cons_zero, List.getElem?_cons_succ, List.set_cons_zero, List.set_cons_succ, fin_v, fin_f0, fin_f1, okB_some, truth_bool, constP_int, constP_str, constP_bool, constP_none, add_ii, sub_ii, lt_ii, gt_ii, le_ii, eq_ii, ne_ii, eq_ss, kill, List.foldl_cons, List.foldl_nil, setAll, bindT, tgtSlots, Flw.out, F_law, dropS, di, r1, r2, r3, r4, r5, n1, n2, n3, n4]
    refine ⟨[.lst (ns.map .int), .lst (ls.map .str), .tup la, .ref 0, .undef, .undef, .undef, .dct (fv F), .tup lf], .dict false (fv F), ?_⟩
    rw [show F_law.body = dropS 0 F_law.body from rfl, execs_hd 0 s0, execs_hd 1 s1, execs_hd 2 s2, execs_hd 3 s3, fin]
    rfl
  obtain ⟨ρ', o, run⟩ := run
  unfold runFn
  rw [if_pos (show [PV.lst (ns.map .int)].length = F_law.nargs from rfl)]
  rw [show ([PV.lst (ns.map .int)] ++ List.replicate (F_law.slots - F_law.nargs) PV.undef) = [.lst (ns.map .int), .undef, .undef, .undef, .undef, .undef, .undef, .undef, .undef] from rfl, run]
  simp only [runFn, List.length_cons, List.length_nil, Nat.reduceAdd, Nat.reduceSub, if_true, Nat.sub_self, Nat.sub_zero, List.replicate_zero, List.replicate_succ, List.replicate, List.append_nil, List.nil_append, List.cons_append, e_const, e_loc, e_and, e_or, e_bin, e_not, e_neg, e_cmp, e_tup, e_lst, e_edict, e_idx, e_comp, e_call, e_bi, e_meth, e_nil, e_cons, e_and1, e_and2, e_or1, e_or2, x_assign, x_setitem, x_expr, x_ret, x_ite, x_for, x_nil, x_cons, Bool.false_eq_true, if_false, items_tup, items_lst, items_rng, items_dct, lkV_tup, lkV_lst, lkV_rng, lkV_dct, lockV_tup, lockV_lst, lockV_rng, lockV_dct, unlk_ok, box_0, box_1, val_list, val_dict, obj_list, obj_dict, Nat.pred_zero, Nat.pred_succ, Nat.pred, Option.map_some, Bool.not_true, Bool.not_false, List.take_left, List.take_length, bind_ok, k_bin1, k_bin2, k_not, k_neg, k_cmp1, k_cmp2, k_tup, k_lst, k_idx1, k_idx2, k_comp1, k_compI, k_comp2, k_call, k_bi, k_meth1, k_methI, k_meth2, k_meth3, k_cons1, k_cons2, k_and, k_and_t, k_and_f, k_or, k_or_t, k_or_f, k_assign, k_set1, k_set2, k_set3, k_set4, k_expr, k_ret, k_if, k_if_t, k_if_f, k_for, k_forI, k_seq, k_seq_n, k_seq_r, List.getElem?_cons_zero, List.getElem?_cons_succ, List.set_cons_zero, List.set_cons_succ, fin_v, fin_f0, fin_f1, okB_some, truth_bool, constP_int, constP_str, constP_bool, constP_none, add_ii, sub_ii, lt_ii, gt_ii, le_ii, eq_ii, ne_ii, eq_ss, kill, List.foldl_cons, List.foldl_nil, setAll, bindT, tgtSlots, Flw.out, show F_law.keep = false from rfl, frz_bool]
  simp
end Mine

namespace Mine
open PySem PySem.W PyProof.Rows
noncomputable def isDef : Stmt → Bool
  | .FunctionDef .. => true
  | _ => false
noncomputable def view (p : Program) : Program := { p with main := { p.main with body := p.main.body.filter isDef } }
end Mine
open PySem PySem.W PyProof.Rows
set_option maxHeartbeats 8000000 in
theorem PySem.Challenge.cw_uf010018_02_holds : PySem.Challenge.rw_uf010018_02.Holds := by
  w_on
  refine holds_law (by decide +kernel) fun said => ?_
  refine holds_open (q := Mine.view PySem.Challenge.rw_uf010018_02.row.prog) (loose := []) (Xt := fun s => xlAt (Mine.view PySem.Challenge.rw_uf010018_02.row.prog) [] s && recOk (RowW.records (OpenRow.toRowW PySem.Challenge.rw_uf010018_02.row)) s) (XP := XL (Mine.view PySem.Challenge.rw_uf010018_02.row.prog) []) (Yf := Hook.obs Hook.none) (Ya := Hook.val Hook.none) (YP := Hook.says Hook.none) (N := 1172) ?hl (Hook.of Hook.none) (Hook.keeps Hook.none) (fun s e => xl_of s (Bool.and_eq_true_iff.mp e).1) XL.keeps (by rfl) (by rfl) (by rfl) (fun s e => recFacts_of (Bool.and_eq_true_iff.mp e).2) (by rfl) (by first | assumption | decide +kernel) (by decide +kernel) ⟨rfl, rfl, rfl, rfl, rfl, by decide +kernel⟩ ?hw ?hc
  case hl => intro w; kernel_rfl
  case hw => w_witness2
  intro w s₀ s₁ mg mb G Y fa o pm cd doc dV kV ho hd hcd hD hmg hg args vals as hpre hlay hrd hwl hlo
  refine Ground.open G ?_
  intro T B D TE TW
  have hb := Mine.bi_of_top T (by decide +kernel)
  have K := Mine.ok_of_top (prog := PySem.Challenge.rw_uf010018_02.row.prog) (w := w) T (by decide +kernel) (by decide +kernel)
  have FN := Mine.fns_of_top (prog := PySem.Challenge.rw_uf010018_02.row.prog) (w := w) (tbl := Mine.tbl) T (by decide +kernel)
  wrow_args hpre hlay hrd hwl hlo
  rename_i ns q1 q2 q3 q4 q5 q6 q7 x q8 q9 q10 q11 w1 q12 q13 q14 hlen q15
  refine Mine.law_head (C := Mine.Fix.mk PySem.Challenge.rw_uf010018_02.row.prog w s₁.heap mg mb) (G := Mine.G) (F := Mine.F_law) (D := 40) rfl K (by decide) (fun _ _ q => nomatch q) FN hb hmg (by rfl) rfl w1 (Mine.plain02 ns (by omega)) fun s' hk hos hgn => GoodW.toG ⟨.inl ⟨_, .bool true, [], rfl, fun _ => rfl, .bool true, ?_, fun _ => ⟨List.nodup_nil, fun _ q => nomatch q⟩⟩, hk, hos, hgn.trans hg⟩
  exact Mine.post_true _ _ _
