import PyProof.Rows.All
import PyProof.Claim2
import PyProof.Rows.Frame
import PyProof.AttrMissHeap
import PyProof.AutoSeq1
import PyProof.FitsInt
import PyProof.CallType
import PyProof.CallStr
import PyProof.Cells
import PyProof.CompMap
import PyProof.PlainList
import PyProof.ConsumeS
import PyProof.CompFree
import PyProof.Conv_int_bool
import PyProof.MeetsSeq
import PyProof.DictKinds
import PyProof.DictCalls
import PyProof.DictWalks
import PyProof.FactsAll.set_1
import PyProof.FactsAll.set_2
import PyProof.StrBlock
import PyProof.RangeIter
import PyProof.WalksMore
import PyProof.WalkInts
import PyProof.Rows.Tup
import PyProof.Rows.DictSet
import PyProof.Rows.AttrNodeAny
import PyProof.Rows.RuleN_abs
import PyProof.Rows.TupMore
import PyProof.Rows.PlainObj
import PyProof.Rows.TopObj
import PyProof.Rows.PlainNoArg
import PyProof.Rows.SortStr
import PyProof.Rows.SetFrom
import Open.Head
import OpenK.KLine
import KE.KDictList
import KE.KDictSum
import KE.KDictOf
import KE.KEqDict
import KE.KSliceW
import Wide.All
import OpenK.AllK
import Wide.FinOn
import Lean
import PySem.Challenge.RW_uf010018_07
set_option Elab.async false
set_option autoImplicit false
set_option linter.all false
namespace Mine
theorem ar1 {a b : Nat} (h1 : a ≤ b - (1 : Nat)) (h2 : (0 : Nat) < b) : a + (1 : Nat) ≤ b := Nat.add_le_of_le_sub h2 h1
theorem ar3 {a b c : Nat} (h1 : a ≤ (100000 : Nat)) (h2 : b ≤ (100000 : Nat)) (h3 : (200000 : Int) ≤ (↑c : Int)) (h4 : (↑a : Int) + (↑b : Int) > (↑c : Int)) : False := by lia
theorem ar4 {a b : Nat} (h1 : a < b) : a + (1 : Nat) ≤ b := Nat.succ_le_of_lt h1
theorem ar5 {a : Nat} (h1 : a ≤ (1000000 : Nat)) : (↑a : Int) ≤ (1000000 : Int) := Nat.ToInt.of_le rfl rfl h1
theorem ar6 {a b : Nat} (h1 : ¬a < b) (h2 : a < b + (1 : Nat)) : a = b := Nat.le_antisymm (Nat.le_of_lt_succ h2) (Nat.le_of_not_lt h1)
theorem ar7 {a b c : Nat} (h1 : b = c) (h2 : a < c) : a < b := Nat.lt_of_lt_of_eq h2 (id (Eq.symm h1))
theorem byC {p : Prop} (h : ¬p → False) : p := Classical.byContradiction h
theorem nab {x : Int} {n : Nat} (h1 : -(n : Int) ≤ x) (h2 : x ≤ n) : x.natAbs ≤ n := by omega
theorem om3 {a b : Nat} (h1 : ¬b < a) : a ≤ b := Nat.le_of_not_lt h1
theorem om4 {a : Nat} (h1 : a ≤ (1000 : Nat)) : a ≤ (1000000 : Nat) := by lia
theorem om5 {a : Nat} (h1 : a ≤ (63 : Nat)) : a ≤ (1000000 : Nat) := by lia
theorem om6 {a b c : Nat} (h1 : c + (b + (1 : Nat)) ≤ (1000000 : Nat)) (h2 : a ≤ c + (1 : Nat)) : a + b ≤ (1000000 : Nat) := by lia
theorem om7 {a b : Nat} (h1 : a + (b + (1 : Nat)) ≤ (1000000 : Nat)) : a ≤ (1000000 : Nat) := Nat.le_of_add_right_le h1
theorem om8 {a b : Nat} (h1 : a < b) (h2 : b ≤ (1000 : Nat)) : a ≤ (1000000 : Nat) := by omega
theorem om9 {a b c : Nat} {d e f : Int} (h1 : (0 : Int) ≤ d ∧ d < (8 : Int)) (h2 : (1 : Int) + d = e) (h3 : (0 : Int) ≤ f ∧ f < e) (h4 : b = (1 : Nat)) (h5 : a = f.toNat) (h6 : c = (e - (1 : Int) - f).toNat) : a + b + c ≤ (100 : Nat) := by omega
theorem om10 {a b c : Nat} (h1 : b = (1 : Nat)) : (1 : Nat) ≤ a + b + c := Nat.le_trans (Nat.le_of_eq h1.symm) (Nat.le_trans (Nat.le_add_left b a) (Nat.le_add_right _ c))
theorem om11 {a b : Nat} {c : Int} (h1 : (0 : Int) ≤ c ∧ c < (8 : Int)) (h2 : b = c.toNat) (h3 : a = (1 : Nat)) : a + b ≤ (100 : Nat) := Nat.le_trans (Nat.add_le_add (Nat.le_of_eq h3) (h2 ▸ Int.toNat_le.mpr (Int.le_of_lt h1.2) : b ≤ 8)) (by decide)
theorem om12 {a b : Nat} (h1 : a = (1 : Nat)) : (1 : Nat) ≤ a + b := Nat.le.intro (congrFun (congrArg HAdd.hAdd (id (Eq.symm h1))) b)
theorem om13 {a : Nat} (h1 : ¬(↑a : Int) < (8 : Int)) : (7 : Int) < (↑a : Int) := by omega
theorem om14 {a : Nat} (h1 : ¬(↑a : Int) < (8 : Int)) : (8 : Int) ≤ (↑a : Int) := Int.not_lt.mp h1
theorem om15 {a : Nat} {b : Int} (h1 : (0 : Int) ≤ b ∧ b < (8 : Int)) (h2 : a = ((1 : Int) + b).toNat) : a ≤ (100 : Nat) := h2 ▸ Nat.le_trans (Int.toNat_le.mpr (show (1 : Int) + b ≤ ((9 : Nat) : Int) from Int.add_le_add_left (Int.le_of_lt h1.2) 1)) (by decide)
theorem om16 {a : Nat} {b : Int} (h1 : (0 : Int) ≤ b ∧ b < (8 : Int)) (h2 : a = ((1 : Int) + b).toNat) : (1 : Nat) ≤ a := by omega
theorem om17 {a : Nat} (h1 : (↑a : Int) < (8 : Int)) : (↑a : Int) ≤ (7 : Int) := Int.le_iff_lt_add_one.mpr h1
theorem om18 {a b : Nat} {c : Int} (h1 : (0 : Int) ≤ c ∧ c < (8 : Int)) (h2 : a = (1 : Nat)) (h3 : b = c.toNat) : a + b ≤ (100 : Nat) := Nat.le_trans (Nat.add_le_add (Nat.le_of_eq h2) (h3 ▸ Int.toNat_le.mpr (Int.le_of_lt h1.2) : b ≤ 8)) (by decide)
theorem om19 {a b : Nat} {c : Int} (h1 : (0 : Int) ≤ c ∧ c < (8 : Int)) (h2 : b = c.toNat) (h3 : a = (1 : Nat)) : a + b ≤ (1000000 : Nat) := by lia
theorem om20 {a b : Nat} {c : Int} (h1 : (0 : Int) ≤ c ∧ c < (8 : Int)) (h2 : a = (1 : Nat)) (h3 : b = c.toNat) : a + b ≤ (1000000 : Nat) := Nat.le_trans (Nat.add_le_add (Nat.le_of_eq h2) (h3 ▸ Int.toNat_le.mpr (Int.le_of_lt h1.2) : b ≤ 8)) (by decide)
theorem om21 {a b c : Nat} {d e f : Int} (h1 : (0 : Int) ≤ d ∧ d < (8 : Int)) (h2 : (1 : Int) + d = e) (h3 : (0 : Int) ≤ f ∧ f < e) (h4 : b = (1 : Nat)) (h5 : a = f.toNat) (h6 : c = (e - (1 : Int) - f).toNat) : a + b + c ≤ (1000000 : Nat) := by omega
theorem om22 {a b : Nat} {c d e : Int} (h1 : (0 : Int) ≤ c ∧ c < (8 : Int)) (h2 : (1 : Int) + c = d) (h3 : (0 : Int) ≤ e ∧ e < d) (h4 : b = (1 : Nat)) (h5 : a = e.toNat) : a + b ≤ (1000000 : Nat) := Nat.le_trans (Nat.add_le_add (h5 ▸ Int.toNat_le.mpr (Int.le_of_lt (Int.lt_of_lt_of_le h3.2 (h2 ▸ Int.add_le_add_left (Int.le_of_lt h1.2) 1))) : a ≤ 9) (Nat.le_of_eq h4)) (by decide)
theorem om23 {a : Nat} (h1 : a = (1 : Nat)) : a ≤ (1000 : Nat) := by lia
theorem om24 {a : Int} (h1 : (0 : Int) ≤ a ∧ a < (8 : Int)) : (-1000 : Int) ≤ a := by lia
theorem om25 {a : Int} (h1 : (0 : Int) ≤ a ∧ a < (8 : Int)) : a ≤ (1000 : Int) := by lia
theorem om26 {a : Int} (h1 : (0 : Int) ≤ a ∧ a < (8 : Int)) : (-1000 : Int) ≤ (1 : Int) + a := Int.le_trans (by decide) (Int.le_add_of_nonneg_right h1.1)
theorem om27 {a : Int} (h1 : (0 : Int) ≤ a ∧ a < (8 : Int)) : (1 : Int) + a ≤ (1000 : Int) := by lia
theorem om28 {a b : Int} (h1 : (0 : Int) ≤ b ∧ b < a) : (-1000 : Int) ≤ a - (1 : Int) - b := by lia
theorem om29 {a b c : Int} (h1 : (0 : Int) ≤ c ∧ c < (8 : Int)) (h2 : (1 : Int) + c = a) (h3 : (0 : Int) ≤ b ∧ b < a) : a - (1 : Int) - b ≤ (1000 : Int) := Int.le_trans (Int.sub_le_self _ h3.1) (Int.le_trans (Int.sub_le_self _ (by decide)) (h2 ▸ Int.le_trans (Int.add_le_add_left (Int.le_of_lt h1.2) 1) (by decide)))
theorem om30 {a b : Int} (h1 : (0 : Int) ≤ a ∧ a < b) : (-1000 : Int) ≤ a := by omega
theorem om31 {a b c : Int} (h1 : (0 : Int) ≤ b ∧ b < (8 : Int)) (h2 : (1 : Int) + b = c) (h3 : (0 : Int) ≤ a ∧ a < c) : a ≤ (1000 : Int) := Int.le_of_lt (Int.lt_of_lt_of_le h3.2 (h2 ▸ Int.le_trans (Int.add_le_add_left (Int.le_of_lt h1.2) 1) (by decide)))
theorem om32 {a b : Nat} (h1 : a < b) : a + (1 : Nat) ≤ b := Nat.succ_le_of_lt h1
theorem om33 {a b : Nat} (h1 : b ≤ (1000 : Nat)) (h2 : a < b) : a ≤ (1000000 : Nat) := by lia
theorem om34 {a : Nat}  : (0 : Nat) ≤ a := Nat.zero_le a
theorem om35 {a : Nat} (h1 : a ≤ (1000 : Nat)) : (↑a : Int).natAbs ≤ (1000000 : Nat) := Nat.le_trans h1 (by decide)
theorem om36 {a : Int} (h1 : (0 : Int) ≤ a ∧ a < (8 : Int)) : (0 : Int) < (1 : Int) + a := by lia
theorem om37 {a : Int} (h1 : (0 : Int) ≤ a ∧ a < (8 : Int)) : (1 : Int) + a ≠ (0 : Int) := by omega
theorem om38 {a : Int} (h1 : (0 : Int) ≤ a ∧ a < (26 : Int)) : (0 : Int) ≤ a ∧ a ≤ (1000000 : Int) := ⟨h1.1, Int.le_trans (Int.le_of_lt h1.2) (by decide)⟩
theorem om39 {a : Int} (h1 : (0 : Int) ≤ a ∧ a < (26 : Int)) : a.toNat < (26 : Nat) := (Int.toNat_lt h1.1).mpr h1.2
theorem om40 {a b c : Nat}  : a + b + c = a + (c + b) := by lia
theorem om41 {a : Int} (h1 : (0 : Int) < a) : (0 : Int) ≤ a := Int.le_of_lt h1
theorem om42 {a : Int} {b : Nat} (h1 : (0 : Int) ≤ a ∧ a < (↑b : Int)) : a = (↑a.toNat : Int) := (Int.toNat_of_nonneg h1.1).symm
theorem om43 {a : Int} {b : Nat} (h1 : (0 : Int) ≤ a ∧ a < (↑b : Int)) : a.toNat < b := (Int.toNat_lt h1.1).mpr h1.2
theorem om44 {a : Nat} (h1 : (0 : Nat) < a) : (0 : Int) < (↑a : Int) := Int.natCast_pos.mpr h1
theorem om45 {a : Nat} (h1 : a ≤ (4 : Nat)) : a ≤ (1000000 : Nat) := by lia
theorem om46 {a b c d : Nat} (h1 : c ≤ (1000 : Nat)) (h2 : d + (1 : Nat) = c) (h3 : a + b ≤ d) : a + (1 : Nat) + b ≤ (1000000 : Nat) := by lia
theorem om47 {a b c : Nat} (h1 : c ≤ b + (1 : Nat)) (h2 : a < c) : a ≤ b := by lia
theorem om48 {a b : Nat} (h1 : b ≤ (1000 : Nat)) (h2 : a < b) : a ≤ (1000 : Nat) := Nat.le_trans (Nat.le_of_lt h2) h1
theorem om49 {a b : Nat} (h1 : b ≤ a) (h2 : (1 : Nat) ≤ b) : a = a - (1 : Nat) + (1 : Nat) := (Nat.sub_add_cancel (Nat.le_trans h2 h1)).symm
theorem om50 {a b c : Nat}  : a + b ≤ a + (b + c) := by lia
theorem om51   : (1 : Nat) ≤ (1 : Nat) := Nat.le_of_ble_eq_true rfl
theorem om52 {a b : Nat}  : (1 : Nat) ≤ (1 : Nat) + max a b := Nat.le_add_right 1 (max a b)
theorem om53 {a : Nat}  : (1 : Nat) ≤ (1 : Nat) + a := Nat.le_add_right 1 a
theorem om54 {a b c d : Nat}  : (1 : Nat) ≤ (1 : Nat) + max (max a b) (max c d) := Nat.le_add_right 1 (max (max a b) (max c d))
theorem om55 {a b c d : Nat}  : a < (1 : Nat) + (a + b + (c + d)) := by lia
theorem om56 {a b c d : Nat}  : a < (1 : Nat) + (b + a + (c + d)) := by lia
theorem om57 {a b c d : Nat}  : a < (1 : Nat) + (b + c + (a + d)) := by lia
theorem om58 {a b c d : Nat}  : a < (1 : Nat) + (b + c + (d + a)) := by lia
theorem om59 {a : Nat}  : a < (1 : Nat) + a := by lia
theorem om60 {a b : Nat}  : a < (1 : Nat) + (a + b) := by lia
theorem om61 {a b : Nat}  : a < (1 : Nat) + (b + a) := by lia
theorem om62 {a b c d : Nat}  : a < (1 : Nat) + max (max a b) (max c d) := Nat.lt_one_add_iff.mpr (Nat.le_trans (Nat.le_max_left a b) (Nat.le_max_left _ _))
theorem om63 {a b c d : Nat}  : a < (1 : Nat) + max (max b a) (max c d) := Nat.lt_one_add_iff.mpr (Nat.le_trans (Nat.le_max_right b a) (Nat.le_max_left _ _))
theorem om64 {a b c d : Nat}  : a < (1 : Nat) + max (max b c) (max a d) := Nat.lt_one_add_iff.mpr (Nat.le_trans (Nat.le_max_left a d) (Nat.le_max_right _ _))
theorem om65 {a b c d : Nat}  : a < (1 : Nat) + max (max b c) (max d a) := Nat.lt_one_add_iff.mpr (Nat.le_trans (Nat.le_max_right d a) (Nat.le_max_right _ _))
theorem om66 {a b : Nat}  : a < (1 : Nat) + max a b := by lia
theorem om67 {a b : Nat}  : a < (1 : Nat) + max b a := Nat.lt_one_add_iff.mpr (Nat.le_max_right b a)
theorem om68 {a b c d : Nat}  : a + (b + (c + d)) + (1 : Nat) = (1 : Nat) + (a + b + (c + d)) := by lia
theorem om69 {a : Nat}  : a + (1 : Nat) = (1 : Nat) + a := Nat.add_comm a 1
theorem om70 {a b : Nat}  : a + b + (1 : Nat) = (1 : Nat) + (a + b) := Eq.symm (Nat.add_comm 1 (a + b))
theorem om71 {a b c d : Nat}  : (↑a : Int) + (↑b : Int) + (↑c : Int) + (↑d : Int) = (↑a : Int) + (↑b : Int) + ((↑c : Int) + (↑d : Int)) := Int.add_assoc (↑a + ↑b) ↑c ↑d
theorem om72 {a : Nat} (h1 : a < (1000 : Nat)) : a + (1 : Nat) ≤ (1000000 : Nat) := by lia
theorem om73 {a b : Nat} (h1 : b ≤ (1000 : Nat)) (h2 : a ≤ b) : a ≤ (1000000 : Nat) := by lia
theorem om74 {a b c d : Nat}  : a + (b + (c + d)) = a + b + (c + d) := Eq.symm (Nat.add_assoc a b (c + d))
theorem om75 {a b : Nat} (h1 : a + b ≤ (16 : Nat)) : a + b ≤ (1000000 : Nat) := by lia
theorem om76 {a b c : Nat} (h1 : b ≤ (4 : Nat)) (h2 : a + c = b) : a ≤ (4 : Nat) := by lia
theorem om77 {a b c d : Nat} (h1 : a ≤ d) (h2 : b ≤ c) : a + b ≤ c + d := by lia
theorem om78 {a b c d : Nat} (h1 : b ≤ (1000 : Nat)) (h2 : c ≤ d) (h3 : d ≤ b) (h4 : a ≤ c) : a ≤ (1000000 : Nat) := by lia
theorem om79 {a b : Nat}  : a ≤ a + b := Nat.le_add_right a b
theorem om80 {a b c d : Nat} (h1 : a ≤ d + c) (h2 : d ≤ b + (1 : Nat)) : a ≤ b + (c + (1 : Nat)) := Nat.le_trans h1 (Nat.le_trans (Nat.add_le_add_right h2 c) (Nat.le_of_eq (Nat.add_right_comm b 1 c)))
theorem om81 {a b c d : Nat}  : a ≤ (1 : Nat) + max (max b c) (max a d) := Nat.le_trans (Nat.le_trans (Nat.le_max_left a d) (Nat.le_max_right _ _)) (Nat.le_add_left _ 1)
theorem om82 {a b c d e f : Nat} (h1 : a + (b + c + (d + f)) ≤ e) : a + b + c + d ≤ e := by lia
theorem om83 {a : Nat}  : (20 : Nat) * a * (4 : Nat) ≤ (20 : Nat) * ((4 : Nat) * a) := by lia
theorem om84 {a b : Nat} (h1 : a ≤ b) : (20 : Nat) * a ≤ (20 : Nat) * ((4 : Nat) * b) := by lia
theorem om85 {a b c : Nat} (h1 : a ≤ c) (h2 : b ≤ c) : (20 : Nat) * a + (20 : Nat) * b * (1 : Nat) ≤ (20 : Nat) * ((4 : Nat) * c) := by lia
theorem om86 {a b : Nat}  : a ≤ max b a := Nat.le_max_right b a
theorem om87 {a b : Nat}  : a ≤ max a b := Nat.le_max_left a b
theorem om88 {a b c d : Nat} (h1 : a + (b + c) ≤ d) : a + b + c ≤ d := by lia
theorem om89 {a b c d : Nat} (h1 : a + (b + d) ≤ c) : a + b ≤ c := by lia
theorem om90 {a b c : Nat} (h1 : (1 : Nat) ≤ a) (h2 : a + b = c) (h3 : c = (0 : Nat)) : False := by lia
theorem om91 {a b : Nat} (h1 : a ≤ (1000 : Nat)) (h2 : b ≤ (1000 : Nat)) : a + b ≤ (1000000 : Nat) := by lia
theorem om92 {a b c : Nat} (h1 : a ≤ b) (h2 : b < c) (h3 : c ≤ (1000 : Nat)) : a ≤ (1000 : Nat) := by lia
theorem om93 {a b : Int} {c d e : Nat} (h1 : d + e ≤ c) (h2 : a.natAbs ≤ d) (h3 : b.natAbs ≤ e) : (a + b).natAbs ≤ c := Nat.le_trans (Int.natAbs_add_le a b) (Nat.le_trans (Nat.add_le_add h2 h3) h1)
theorem om94 {a b c : Nat} (h1 : a ≤ c) (h2 : c < b) : a < b := Nat.lt_of_le_of_lt h1 h2
theorem om95 {a b : Nat} (h1 : a + b ≤ (1000000 : Nat)) : a ≤ (1000000 : Nat) := Nat.le_of_add_right_le h1
theorem om96 {a : Nat} (h1 : a ≤ (100000 : Nat)) : a + ((0 : Nat) + (1 : Nat)) ≤ (1000000 : Nat) := by lia
theorem om97 {a b c d e f g h i : Nat} (h1 : a + (2 : Nat) * ((1 : Nat) + (f + g + (h + i))) ≤ (100000 : Nat)) (h2 : b ≤ (2 : Nat) * f) (h3 : c ≤ (2 : Nat) * g) (h4 : d ≤ (2 : Nat) * h) (h5 : e ≤ (2 : Nat) * i) : a + (b + (c + (d + (e + (0 : Nat))))) ≤ (100000 : Nat) := by lia
theorem om98 {a b c d : Nat}  : a + (b + (c + (d + (0 : Nat)))) = a + b + (c + d) := Eq.symm (Nat.add_assoc a b (c + d))
theorem om99 {a b c d : Nat}  : a ≤ (1 : Nat) + max (max b c) (max d a) := Nat.le_trans (Nat.le_trans (Nat.le_max_right d a) (Nat.le_max_right _ _)) (Nat.le_add_left _ 1)
theorem om100 {a b c d : Nat}  : a ≤ (1 : Nat) + max (max b a) (max c d) := Nat.le_trans (Nat.le_trans (Nat.le_max_right b a) (Nat.le_max_left _ _)) (Nat.le_add_left _ 1)
theorem om101 {a b c d : Nat}  : a ≤ (1 : Nat) + max (max a b) (max c d) := Nat.le_trans (Nat.le_trans (Nat.le_max_left a b) (Nat.le_max_left _ _)) (Nat.le_add_left _ 1)
theorem om102 {a b c d e f : Nat} (h1 : a + (b + c + (d + e)) ≤ f) : a + b + c + d + e ≤ f := by lia
theorem om103 {a b c d e f : Nat} (h1 : a + (b + c + (e + f)) ≤ d) : a + b + c ≤ d := Nat.le_trans (Nat.le_of_eq (Nat.add_assoc a b c)) (Nat.le_trans (Nat.add_le_add_left (Nat.le_add_right _ _) a) h1)
theorem om104 {a b c d e f : Nat} (h1 : a + (b + d + (e + f)) ≤ c) : a + b ≤ c := Nat.le_trans (Nat.add_le_add_left (Nat.le_trans (Nat.le_add_right b d) (Nat.le_add_right _ _)) a) h1
theorem om105 {a b c d e : Nat} (h1 : a + (2 : Nat) * ((1 : Nat) + (d + e)) ≤ (100000 : Nat)) (h2 : b ≤ (2 : Nat) * d) (h3 : c ≤ (2 : Nat) * e) : a + (b + (c + (0 : Nat))) ≤ (1000000 : Nat) := by lia
theorem om106 {a b : Nat}  : a ≤ (1 : Nat) + max b a := Nat.le_trans (Nat.le_max_right b a) (Nat.le_add_left _ 1)
theorem om107 {a b : Nat}  : a ≤ (1 : Nat) + max a b := Nat.le_trans (Nat.le_max_left a b) (Nat.le_add_left _ 1)
theorem om109 {a : Nat}  : a ≤ (1 : Nat) + a := Nat.le_add_left a 1
theorem om110 {a : Nat}  : (↑(a + (1 : Nat)) : Int) - (1 : Int) = (↑a : Int) := Int.sub_eq_iff_eq_add.mpr rfl
theorem om111 {a b : Nat} (h1 : b ≤ (20 : Nat)) (h2 : a ≤ b) : a ≤ (20 : Nat) := Nat.le_trans h2 h1
theorem om112 {a b c : Nat} (h1 : a + (2 : Nat) * c ≤ (100000 : Nat)) (h2 : b < c) : a + (2 : Nat) * b ≤ (100000 : Nat) := by lia
theorem om113 {a b : Nat} (h1 : b ≤ (20 : Nat)) (h2 : a < b) : a ≤ (20 : Nat) := by lia
theorem om114 {a b c d : Nat}  : a + (b + (c + d)) < (1 : Nat) + (a + b + (c + d)) := by lia
theorem om115 {a b c d : Nat} (h1 : a + (2 : Nat) * (d + c) ≤ (100000 : Nat)) (h2 : b ≤ (2 : Nat) * d) : a + b + (2 : Nat) * c ≤ (100000 : Nat) := by lia
theorem om116 {a b c : Nat} (h1 : a + (2 : Nat) * (b + c) ≤ (100000 : Nat)) : a + (2 : Nat) * b ≤ (100000 : Nat) := by lia
theorem om117 {a b c d e f g h : Nat} (h1 : a ≤ (2 : Nat) * e) (h2 : b ≤ (2 : Nat) * f) (h3 : c ≤ (2 : Nat) * g) (h4 : d ≤ (2 : Nat) * h) : a + b + c + d + ((0 : Nat) + (1 : Nat)) + ((0 : Nat) + (1 : Nat)) ≤             (2 : Nat) * ((1 : Nat) + (e + f + (g + h))) := by lia
theorem om118 {a b : Nat} (h1 : a ≤ (2 : Nat) * b) : a ≤ (2 : Nat) * ((1 : Nat) + b) := by lia
theorem om119 {a b c d : Nat} (h1 : a ≤ (2 : Nat) * c) (h2 : b ≤ (2 : Nat) * d) : a + b + ((0 : Nat) + (1 : Nat)) ≤ (2 : Nat) * ((1 : Nat) + (c + d)) := by lia
theorem om120 {a b c d : Nat} (h1 : a ≤ (2 : Nat) * c) (h2 : b ≤ (2 : Nat) * d) : a + b ≤ (2 : Nat) * ((1 : Nat) + (c + d)) := by lia
theorem om121 {a : Nat}  : a ≤ a + (3 : Nat) := Nat.le_add_right a 3
theorem om122 {a : Nat}  : a ≤ a + (1 : Nat) := Nat.le_add_right a 1
theorem om123 {a b c : Nat} (h1 : b ≤ (1000 : Nat)) (h2 : c < b) (h3 : a ≤ (2 : Nat) * c) : a + (1 : Nat) + (1 : Nat) ≤ (1000000 : Nat) := by lia
theorem om124 {a b c : Nat} (h1 : b ≤ (1000 : Nat)) (h2 : c < b) (h3 : a ≤ (2 : Nat) * c) : a + (1 : Nat) ≤ (1000000 : Nat) := by lia
theorem om125 {a b c d e f : Nat} (h1 : c ≤ (1000 : Nat)) (h2 : d < c) (h3 : e + f ≤ d) (h4 : a ≤ (2 : Nat) * e) (h5 : b ≤ (2 : Nat) * f) : a + b ≤ (1000000 : Nat) := by lia
theorem om126 {a b c : Nat} (h1 : a ≤ (1000 : Nat)) : a - (b + c) ≤ (1000000 : Nat) := Nat.le_trans (Nat.sub_le _ _) (Nat.le_trans h1 (by decide))
theorem om127 {a b c : Nat} (h1 : b ≤ (1000 : Nat)) (h2 : c < b) (h3 : a ≤ c) : a ≤ (1000000 : Nat) := by lia
theorem om128 {a b c : Nat} (h1 : c ≤ b + (1 : Nat)) (h2 : a < c) : a ≤ b + (2 : Nat) := by lia
theorem om129 {a b c d e f : Nat} (h1 : a + e ≤ d) (h2 : f = e) (h3 : b + c ≤ f) : a + b + c ≤ d := Nat.le_trans (Nat.le_of_eq (Nat.add_assoc a b c)) (Nat.le_trans (Nat.add_le_add_left (h2 ▸ h3) a) h1)
theorem om130 {a b c : Nat} (h1 : a + b = c) (h2 : c ≤ (4 : Nat)) : a ≤ (4 : Nat) := by lia
theorem om131 {a b c d : Nat} (h1 : a ≤ (2 : Nat) * c) (h2 : b ≤ (2 : Nat) * d) : a + b ≤ (2 : Nat) * (c + d) := by lia
theorem om132 {a : Nat} (h1 : a ≤ (1000000 : Nat)) : (0 : Int) ≤ (↑a : Int) ∧ (↑a : Int) ≤ (1000000 : Int) := by lia
theorem om133 {a : Nat} (h1 : a ≤ (500 : Nat)) : (2 : Nat) * a ≤ (100000 : Nat) := by lia
theorem om134 {a : Nat}  : (0 : Nat) + a ≤ a := by lia
theorem om135 {a : Nat}  : ¬a + (3 : Nat) < a := by omega
theorem om136 {a b c d e : Nat} (h1 : b ≤ e) (h2 : a + e + c < d) : a + b + c < d := Nat.lt_of_le_of_lt (Nat.add_le_add_right (Nat.add_le_add_left h1 a) c) h2
theorem om137 {a b : Nat} (h1 : a ≤ b) (h2 : b ≤ (500 : Nat)) : a ≤ (1000 : Nat) := by omega
theorem om138 {a b : Nat} (h1 : b ≤ (1000 : Nat)) (h2 : a = (1 : Nat)) : a + b ≤ (1000000 : Nat) := by lia
theorem om139 {a b : Nat} (h1 : b ≤ (500 : Nat)) (h2 : a ≤ b) : a ≤ (1000000 : Nat) := Nat.le_trans h2 (Nat.le_trans h1 (by decide))
theorem om140 {a b : Nat} (h1 : b ≤ (500 : Nat)) (h2 : a ≤ b) : (↑a : Int).natAbs ≤ (1000000 : Nat) := Nat.le_trans h2 (Nat.le_trans h1 (by decide))
theorem om141 {a b : Nat} (h1 : b ≤ (500 : Nat)) (h2 : a ≤ b) : a ≤ (1000 : Nat) := by lia
theorem om142 {a b : Nat} (h1 : a ≤ b) (h2 : b ≤ (4 : Nat)) : a ≤ (1000 : Nat) := by lia
theorem om143 {a : Nat} (h1 : a ≤ (500 : Nat)) : a ≤ (1000 : Nat) := by lia
theorem om144 {a b c d : Nat} (h1 : b ≤ (1000 : Nat)) (h2 : c + d = b) (h3 : a ≤ c) : a ≤ (1000 : Nat) := Nat.le_trans h3 (Nat.le_trans (Nat.le.intro h2) h1)
theorem om145 {a b c d : Nat} (h1 : a = c) (h2 : c ≤ d) (h3 : d ≤ (4 : Nat)) (h4 : (4 : Nat) < b) : a < b := by lia
theorem om146 {a b : Nat} (h1 : b ≤ (41 : Nat)) (h2 : a = (1 : Nat)) : a + b ≤ (1000000 : Nat) := by lia
theorem om147 {a b c d e : Nat} (h1 : a ≤ d) (h2 : b ≤ d) (h3 : (2 : Nat) * d + (2 : Nat) * e = c) : a + b ≤ c := Nat.le_trans (Nat.add_le_add h1 h2) (h3 ▸ Nat.le_trans (Nat.le_of_eq (Nat.two_mul d).symm) (Nat.le_add_right _ _))
theorem om148 {a b c : Nat} (h1 : a ≤ c) (h2 : b ≤ c) : (1 : Nat) + (a + b) ≤ (1 : Nat) + (4 : Nat) * c := by lia
theorem om149 {a b c : Nat} (h1 : a ≤ c + (1 : Nat)) (h2 : b ≤ c + (1 : Nat)) : (1 : Nat) + max a b ≤ c + (1 : Nat) + (1 : Nat) := Nat.le_trans (Nat.add_le_add_left (Nat.max_le.mpr ⟨h1, h2⟩) 1) (Nat.le_of_eq (Nat.add_comm _ _))
theorem om150 {a b c d e f g : Nat} (h1 : a ≤ f) (h2 : b ≤ f) (h3 : (2 : Nat) * f + (2 : Nat) * g = e) (h4 : c ≤ g) (h5 : d ≤ g) : a + b + (c + d) ≤ e := by lia
theorem om151 {a b c d e f : Nat} (h1 : a ≤ e) (h2 : b ≤ e) (h3 : f ≤ e) (h4 : c ≤ f) (h5 : d ≤ f) : (1 : Nat) + (a + b + (c + d)) ≤ (1 : Nat) + (4 : Nat) * e := by lia
theorem om152 {a b c d e f : Nat} (h1 : a ≤ e + (1 : Nat)) (h2 : b ≤ e + (1 : Nat)) (h3 : f < e + (1 : Nat)) (h4 : c ≤ f + (1 : Nat)) (h5 : d ≤ f + (1 : Nat)) : (1 : Nat) + max (max a b) (max c d) ≤ e + (1 : Nat) + (1 : Nat) := Nat.le_trans (Nat.add_le_add_left (Nat.max_le.mpr ⟨Nat.max_le.mpr ⟨h1, h2⟩, Nat.max_le.mpr ⟨Nat.le_trans h4 h3, Nat.le_trans h5 h3⟩⟩) 1) (Nat.le_of_eq (Nat.add_comm _ _))
theorem om153 {a b c d : Nat} (h1 : a ≤ c) (h2 : (2 : Nat) * c + (2 : Nat) * d = b) : a ≤ b := Nat.le_trans h1 (h2 ▸ Nat.le_trans (Nat.le_mul_of_pos_left c (by decide)) (Nat.le_add_right _ _))
theorem om154 {a b : Nat} (h1 : a ≤ b) : (1 : Nat) + a ≤ (1 : Nat) + (4 : Nat) * b := by lia
theorem om155 {a b : Nat} (h1 : a ≤ b + (1 : Nat)) : (1 : Nat) + a ≤ b + (1 : Nat) + (1 : Nat) := by lia
theorem om156 {a : Int} (h1 : (0 : Int) ≤ a ∧ a < (9 : Int)) : (a - (4 : Int)).natAbs ≤ (4 : Nat) := nab (Int.le_sub_right_of_add_le (show (-((4 : Nat) : Int)) + 4 ≤ a from h1.1)) (Int.sub_right_le_of_le_add (show a ≤ ((4 : Nat) : Int) + 4 from Int.le_of_lt_add_one h1.2))
theorem om157 {a b c : Nat} (h1 : c + (1 : Nat) + (4 : Nat) ≤ b + (4 : Nat)) (h2 : a < c + (1 : Nat)) : a + (4 : Nat) ≤ b + (3 : Nat) := by lia
theorem om158 {a : Int} {b : Nat} (h1 : a ≤ (↑(b + (1 : Nat) + (1 : Nat)) : Int)) : a - (2 : Int) ≤ (↑b : Int) := Int.sub_right_le_iff_le_add.mpr h1
theorem om159 {a : Nat}  : a < a + (1 : Nat) + (1 : Nat) := by lia
theorem om160 {a : Int} (h1 : a ≤ (↑((0 : Nat) + (1 : Nat)) : Int)) : a - (2 : Int) ≤ (↑(0 : Nat) : Int) := by lia
theorem om161   : (0 : Nat) < (0 : Nat) + (1 : Nat) := Nat.zero_lt_succ 0
theorem om162 {a b : Nat} (h1 : a + (1 : Nat) + (4 : Nat) ≤ b + (4 : Nat)) : a + (4 : Nat) ≤ b + (3 : Nat) := Nat.le_of_lt_succ h1
theorem om163 {a : Int} {b : Nat} (h1 : a ≤ (↑(b + (1 : Nat)) : Int)) : a - (1 : Int) ≤ (↑b : Int) := Int.sub_right_le_iff_le_add.mpr h1
theorem om164 {a : Nat}  : a < a + (1 : Nat) := Nat.lt_add_one a
theorem om165 {a : Nat} {b : Int} (h1 : b ≤ (↑a : Int)) (h2 : ¬b < (1 : Int)) : a = a - (1 : Nat) + (1 : Nat) := (Nat.sub_add_cancel (Int.ofNat_le.mp (Int.le_trans (Int.not_lt.mp h2) h1))).symm
theorem om166 {a b : Nat} (h1 : a ≤ (1 : Nat)) (h2 : (1 : Nat) ≤ b) : a ≤ b := Nat.le_trans h1 h2
theorem om167 {a b : Nat} (h1 : a = (1 : Nat)) (h2 : (1 : Nat) ≤ b) : a ≤ b := le_of_eq_of_le h1 h2
theorem om168 {a b : Nat} (h1 : a = (1 : Nat)) : a ≤ b + (1 : Nat) := by lia
theorem om169 {a b : Nat} (h1 : b + (4 : Nat) ≤ a) : a = a - (4 : Nat) + (4 : Nat) := (Nat.sub_add_cancel (Nat.le_trans (Nat.le_add_left 4 b) h1)).symm
theorem om170 {a : Int} (h1 : (0 : Int) ≤ a ∧ a < (4 : Int)) : a = (0 : Int) ∨ a = (1 : Int) ∨ a = (2 : Int) ∨ a = (3 : Int) := by lia
theorem om171 {a : Nat}  : a ≤ (1 : Nat) + (4 : Nat) * a := by lia
theorem om172 {a : Nat}  : (1 : Nat) ≤ (1 : Nat) + (4 : Nat) * a := Nat.le_add_right 1 (4 * a)
theorem om173 {a b : Nat} (h1 : (1 : Nat) ≤ b) : (1 : Nat) ≤ (2 : Nat) * a + (2 : Nat) * b := by lia
theorem om174 {a : Nat} (h1 : (1 : Nat) ≤ a) : (↑a : Int) ≠ (0 : Int) := Int.natCast_ne_zero_iff_pos.mpr h1
theorem om175 {a : Int} (h1 : (0 : Int) ≤ a ∧ a < (1000000000 : Int)) : (0 : Int) < (1 : Int) + a := Int.lt_of_lt_of_le (by decide : (0 : Int) < 1) (Int.le_add_of_nonneg_right h1.1)
theorem om176 {a : Int} (h1 : (0 : Int) ≤ a ∧ a < (5 : Int)) : (0 : Int) < (1 : Int) + a := by omega
theorem om177 {a : Nat} (h1 : (0 : Nat) < a) : (↑a : Int) ≠ (0 : Int) := Int.natCast_ne_zero_iff_pos.mpr h1
theorem om178 {a b : Int} (h1 : (0 : Int) < b) : (0 : Nat) < a.natAbs + b.natAbs := Nat.lt_of_lt_of_le (Int.natAbs_pos.mpr (Int.ne_of_gt h1)) (Nat.le_add_left _ _)
theorem om179 {a : Nat}  : (0 : Int) ≤ (↑a : Int) := Int.natCast_nonneg a
theorem om180 {a b : Nat} (h1 : b < a) : (↑a : Int) ≠ (0 : Int) := by omega
theorem om181 {a b : Nat} (h1 : b < a) : ¬a = (0 : Nat) := Nat.ne_zero_of_lt h1
theorem om182 {a b : Nat} (h1 : b < a) : (0 : Nat) < a + b := by omega
theorem om183 {a b c : Nat} (h1 : c ≤ b) (h2 : a ≤ c + (1 : Nat)) : a ≤ b + (1 : Nat) := by lia
theorem om184 {a b c : Nat} (h1 : b < (4 : Nat)) (h2 : a ≤ c) (h3 : c < b) : a ≤ (1000000 : Nat) := Nat.le_trans h2 (Nat.le_trans (Nat.le_of_lt h3) (Nat.le_trans (Nat.le_of_lt h1) (by decide)))
theorem om185 {a : Int} (h1 : (0 : Int) ≤ a ∧ a < (41 : Int)) : (a - (20 : Int)).natAbs ≤ (20 : Nat) := nab (Int.le_sub_right_of_add_le (show (-((20 : Nat) : Int)) + 20 ≤ a from h1.1)) (Int.sub_right_le_of_le_add (show a ≤ ((20 : Nat) : Int) + 20 from Int.le_of_lt_add_one h1.2))
theorem om186 {a : Int} (h1 : (0 : Int) ≤ a ∧ a < (5 : Int)) : (a - (2 : Int)).natAbs ≤ (20 : Nat) := Nat.le_trans (nab (n := 2) (Int.le_sub_right_of_add_le (show (-((2 : Nat) : Int)) + 2 ≤ a from h1.1)) (Int.sub_right_le_of_le_add (show a ≤ ((2 : Nat) : Int) + 2 from Int.le_of_lt_add_one h1.2))) (by decide)
theorem om187 {a : Int} (h1 : (0 : Int) ≤ a ∧ a < (9 : Int)) : a / (8 : Int) = (0 : Int) ∨ a / (8 : Int) = (1 : Int) := by lia
theorem om188 {a b : Nat} (h1 : b < (4 : Nat)) (h2 : a ≤ b) : a ≤ (4 : Nat) := by lia
theorem om189 {a : Nat} (h1 : a < (4 : Nat)) : (↑a : Int).natAbs ≤ (1000000 : Nat) := Nat.le_trans (Nat.le_of_lt h1) (by decide)
theorem om190 {a : Nat} (h1 : (1 : Nat) ≤ a) : (0 : Nat) < a := h1
theorem om191 {a b : Nat}  : a + (b + (1 : Nat)) = a + (1 : Nat) + b := by lia
theorem om192 {a b c : Nat} (h1 : a ≤ (1 : Nat)) (h2 : b ≤ (28 : Nat) + c) : a + b ≤ (28 : Nat) + (c + (1 : Nat)) := by lia
theorem om193 {a b c : Nat} (h1 : a = (1 : Nat)) (h2 : b ≤ (85 : Nat) + (2 : Nat) * c) : (1 : Nat) + (a + b) ≤ (85 : Nat) + (2 : Nat) * (c + (1 : Nat)) := by lia
theorem om194 {a b c : Nat} (h1 : a = (1 : Nat)) (h2 : b ≤ (4 : Nat) + c) : (1 : Nat) + max a b ≤ (4 : Nat) + (c + (1 : Nat)) := Nat.le_trans (Nat.add_le_add_left (Nat.max_le.mpr ⟨Nat.le_trans (Nat.le_of_eq h1) (Nat.le_trans (by decide : 1 ≤ 4) (Nat.le_add_right 4 c)), h2⟩) 1) (Nat.le_of_eq (Nat.add_comm 1 (4 + c)))
theorem om195 {a b c d : Nat} (h1 : d ≤ (6 : Nat)) (h2 : b = (4 : Nat)) (h3 : a = (3 : Nat)) (h4 : c ≤ (28 : Nat) + d) : a + b + c ≤ (41 : Nat) := Nat.le_trans (Nat.add_le_add (Nat.add_le_add (Nat.le_of_eq h3) (Nat.le_of_eq h2)) (Nat.le_trans h4 (Nat.add_le_add_left h1 28))) (by decide)
theorem om196 {a : Nat} (h1 : a ≤ (100 : Nat)) : a ≤ (1000 : Nat) := by lia
theorem om197 {a : Nat} (h1 : a = (4 : Nat)) : a ≤ (4 : Nat) := Nat.le_of_eq h1
theorem om198 {a b : Nat} (h1 : b ≤ (6 : Nat)) (h2 : a ≤ (4 : Nat) + b) : a ≤ (20 : Nat) := Nat.le_trans h2 (Nat.le_trans (Nat.add_le_add_left h1 4) (by decide))
theorem om199 {a b : Nat} (h1 : b ≤ (6 : Nat)) (h2 : a ≤ (85 : Nat) + (2 : Nat) * b) : a ≤ (500 : Nat) := by lia
theorem om200 {a : Int} (h1 : (0 : Int) ≤ a ∧ a < (2 : Int)) : a = (0 : Int) ∨ a = (1 : Int) := by lia
theorem om201 {a : Int} (h1 : (0 : Int) ≤ a ∧ a < (3 : Int)) : a = (0 : Int) ∨ a = (1 : Int) ∨ a = (2 : Int) := by lia
theorem om202 {a : Nat} (h1 : a ≤ (3 : Nat)) : a ≤ (200 : Nat) := by lia
theorem om203 {a : Nat} (h1 : a ≤ (2 : Nat)) : a + (1 : Nat) ≤ (3 : Nat) := Nat.succ_le_succ h1
theorem om204 {a : Nat} (h1 : a ≤ (20 : Nat)) : a ≤ (36 : Nat) := by lia
theorem om205 {a : Nat} (h1 : a ≤ (20 : Nat)) : a ≤ (37 : Nat) := by lia
theorem om206 {a b : Nat} (h1 : a ≤ b) (h2 : b ≤ (500 : Nat)) : a ≤ (1000000 : Nat) := by lia
theorem om207 {a b : Nat} (h1 : a ≤ b) (h2 : b ≤ (500 : Nat)) : (↑a : Int).natAbs ≤ (1000000 : Nat) := Nat.le_trans h1 (Nat.le_trans h2 (by decide))
theorem om208 {a : Nat} (h1 : a ≤ (20 : Nat)) : a ≤ (39 : Nat) := by lia
theorem om209 {a b : Nat} (h1 : b = (4 : Nat)) (h2 : a ≤ b) : a ≤ (1000 : Nat) := by lia
theorem om210 {a : Nat} (h1 : a ≤ (6 : Nat)) : a ≤ (1000000 : Nat) := by lia
theorem om211 {a : Int} (h1 : (0 : Int) ≤ a ∧ a ≤ (10 : Int)) : (a - (↑(4 : Nat) : Int)).toNat ≤ (6 : Nat) := Int.toNat_le.mpr (Int.sub_right_le_of_le_add (show a ≤ ((6 : Nat) : Int) + ((4 : Nat) : Int) from h1.2))
theorem om212 {a : Nat} {b : Int} (h1 : (0 : Int) ≤ b ∧ b ≤ (10 : Int)) (h2 : a < (b - (↑(4 : Nat) : Int)).toNat) : (4 : Nat) + a ≤ (1000 : Nat) := Nat.le_trans (Nat.add_le_add_left (Nat.le_of_lt (Nat.lt_of_lt_of_le h2 (Int.toNat_le.mpr (Int.le_trans (Int.sub_le_self b (by decide)) (show b ≤ ((10 : Nat) : Int) from h1.2))))) 4) (by decide)
theorem om213 {a : Int} (h1 : (0 : Int) ≤ a ∧ a ≤ (10 : Int)) : a.natAbs ≤ (1000000 : Nat) := nab (Int.le_trans (by decide) h1.1) (Int.le_trans h1.2 (by decide))
theorem om214 {a : Int} (h1 : (0 : Int) ≤ a) (h2 : a ≤ (10 : Int)) : (0 : Int) ≤ a ∧ a ≤ (10 : Int) := ⟨h1, h2⟩
theorem om215 {a : Nat} {b : Int} (h1 : b ≤ (10 : Int)) (h2 : ¬b < (↑a : Int)) : (0 : Int) ≤ (↑a : Int) ∧ (↑a : Int) ≤ (10 : Int) := ⟨Int.natCast_nonneg a, Int.le_trans (Int.not_lt.mp h2) h1⟩
theorem om216 {a : Nat} (h1 : a = (3 : Nat)) : a ≤ (1000 : Nat) := by lia
theorem om217 {a : Nat} (h1 : a = (3 : Nat)) : (1 : Nat) ≤ a := by omega
theorem om218 {a : Nat} (h1 : a = (4 : Nat)) : a ≤ (1000 : Nat) := by omega
theorem om219 {a : Nat} (h1 : a = (4 : Nat)) : (1 : Nat) ≤ a := by omega
theorem om220 {a b : Nat} (h1 : a + b ≤ (1000000 : Nat)) : a + b ≤ (16777216 : Nat) := by lia
theorem om221 {a b : Nat} (h1 : a + (2 : Nat) * b < (890 : Nat)) : a + (100 : Nat) < (1000 : Nat) := by lia
theorem om222 {a : Nat} (h1 : a ≤ (1000 : Nat) * (1000 : Nat)) : a ≤ (16777216 : Nat) := by lia
theorem om223 {a : Int} (h1 : a ≤ (1000 : Int)) : a.toNat ≤ (1000 : Nat) := Int.toNat_le.mpr h1
theorem om224 {a : Int} (h1 : a < (1 : Int)) : a.toNat = (0 : Nat) := by lia
theorem om225 {a : Nat} (h1 : a ≤ (1000 : Nat) * (1000 : Nat)) : ¬a > (16777216 : Nat) := by omega
theorem om227 {a b : Int} (h1 : a ≤ (b - (1 : Int)) / (1000 : Int) * (1000 : Int)) : a ≤ b - (1 : Int) := Int.le_trans h1 (Int.ediv_mul_le (b - 1) (by decide))
theorem om228 {a : Int} (h1 : ¬a < (1 : Int)) : (0 : Int) < a := by omega
theorem om231 {a b c d : Nat} (h1 : a + (d + (1 : Nat)) < c) (h2 : b ≤ d) : a + (1 : Nat) + b < c := Nat.lt_of_le_of_lt (Nat.le_trans (Nat.add_le_add_left h2 (a + 1)) (Nat.le_of_eq (Nat.add_right_comm a 1 d))) h1
theorem om234 {a b c d : Nat} (h1 : a + (12 : Nat) * d + (700 : Nat) < c) (h2 : b ≤ (200 : Nat)) : a + b < c := by lia
theorem om235 {a b c : Nat} (h1 : a + (12 : Nat) * c + (700 : Nat) < b) : a + (1 : Nat) + (200 : Nat) < b := by lia
theorem om236 {a b c : Nat} (h1 : a + (12 : Nat) * c + (700 : Nat) < b) : a < b := Nat.lt_of_le_of_lt (Nat.le_trans (Nat.le_add_right a (12 * c)) (Nat.le_add_right _ _)) h1
theorem om241 {a : Int} {b : Nat} (h1 : a.toNat < b) (h2 : ¬a < (0 : Int)) (h3 : ((0 : Int) ≤ a → (↑b : Int) ≤ a)) : False := absurd ((Int.toNat_lt (Int.not_lt.mp h2)).mp h1) (Int.not_lt.mpr (h3 (Int.not_lt.mp h2)))
theorem om242 {a : Int} (h1 : (0 : Int) ≤ a) : ¬a < (0 : Int) := Int.not_lt_of_ge h1
theorem om243 {a b : Int} (h1 : b < a) : (↑(a - b).toNat : Int) - (↑(0 : Nat) : Int) = a - b := (Int.sub_zero _).trans (Int.toNat_of_nonneg (Int.sub_nonneg_of_le (Int.le_of_lt h1)))
theorem om244 {a b : Int} (h1 : ¬b < a) : (↑(a - b).toNat : Int) - (↑(0 : Nat) : Int) = (0 : Int) := by lia
theorem om248 {a b : Int} (h1 : b < a) : a - b = (↑(a - b).toNat : Int) := by omega
theorem om249 {a b : Int} (h1 : ¬b < a) : (0 : Int) = (↑(a - b).toNat : Int) := (congrArg Nat.cast (Int.toNat_eq_zero.mpr (Int.sub_nonpos_of_le (Int.not_lt.mp h1)))).symm
theorem om250 {a : Nat} (h1 : a ≤ (1000000 : Nat)) : a ≤ (16777216 : Nat) := by lia
theorem om252 {a b : Nat} (h1 : b ≤ (100 : Nat)) (h2 : a < b) : a ≤ (16777216 : Nat) := by lia
theorem om253 {a b c : Nat} (h1 : b < c) (h2 : c ≤ (100 : Nat)) (h3 : b = a) : a ≤ (16777216 : Nat) := Nat.le_trans (Nat.le_of_eq h3.symm) (Nat.le_trans (Nat.le_of_lt h1) (Nat.le_trans h2 (by decide)))
theorem om254 {a b c : Nat} (h1 : c < b) (h2 : a = c) : a < b := lt_of_eq_of_lt h2 h1
theorem om255 {a b : Nat} (h1 : a < b) (h2 : b ≤ (100 : Nat)) : a ≤ (16777216 : Nat) := by omega
theorem om256 {a : Int} (h1 : a < (0 : Int)) : -a = (↑a.natAbs : Int) := (Int.ofNat_natAbs_of_nonpos (Int.le_of_lt h1)).symm
theorem om257 {a : Int} (h1 : ¬a < (0 : Int)) : a = (↑a.natAbs : Int) := (Int.natAbs_of_nonneg (Int.not_lt.mp h1)).symm
theorem om258 {a b c : Int}  : a + b + c = a + (b + c) := Int.add_assoc a b c
theorem om259 {a b c : Int}  : a + b + c = a + ((0 : Int) + b + c) := by lia
theorem om260 {a : Nat}  : a - (0 : Nat) = a := Nat.sub_zero a
theorem om261 {a b : Nat} (h1 : b ≤ (1000000 : Nat)) (h2 : b = a) : a ≤ (1000000 : Nat) := by lia
theorem om262 {a b : Nat} (h1 : a ≤ b) : a + (1 : Nat) ≤ b + (1 : Nat) := Nat.add_le_add_right h1 1
theorem om263 {a b c : Nat} (h1 : a - b = c + (1 : Nat)) : a - (b + (1 : Nat)) = c := (Nat.sub_add_eq a b 1).trans (congrArg (· - 1) h1)
theorem om264 {a b c : Nat} (h1 : b ≤ (1000000 : Nat)) (h2 : c ≤ b) (h3 : a ≤ c) : a ≤ (16777216 : Nat) := by lia
theorem om265 {a b c : Nat} (h1 : b = c) (h2 : a < c) : a < b := Nat.lt_of_lt_of_eq h2 (id (Eq.symm h1))
theorem om266 {a b c : Nat} (h1 : b - a = c + (1 : Nat)) : a < b := Nat.lt_of_sub_eq_succ h1
theorem om267 {a b : Nat} (h1 : a = b) : a ≤ b := Nat.le_of_eq h1
theorem om268 {a b : Nat} (h1 : b - a = (0 : Nat)) (h2 : a ≤ b) : a = b := Nat.le_antisymm h2 (Nat.le_of_sub_eq_zero h1)
theorem om269 {a b c d : Nat} (h1 : d + (b + (1 : Nat)) + (1 : Nat) < c) (h2 : a ≤ d + (1 : Nat)) : a + b + (1 : Nat) < c := by lia
theorem om270 {a b c : Nat} (h1 : a + (b + (1 : Nat)) = c) : a + (1 : Nat) + b = c := (Nat.add_right_comm a 1 b).trans h1
theorem om271 {a b c : Nat} (h1 : a + (c + (1 : Nat)) + (1 : Nat) < b) : a + (1 : Nat) < b := Nat.lt_of_le_of_lt (Nat.succ_le_succ (Nat.le_add_right a (c + 1))) h1
theorem om272 {a b c : Nat} (h1 : a + (c + (1 : Nat)) = b) : a < b := by lia
theorem om273 {a b : Nat} (h1 : a + (1 : Nat) = b) : a = b - (1 : Nat) := Nat.eq_sub_of_add_eq h1
theorem om274 {a b : Nat} (h1 : b + (1 : Nat) = a) : (0 : Nat) < a := Nat.lt_of_sub_eq_succ (id (Eq.symm h1))
theorem om275 {a b : Nat} (h1 : (0 : Nat) ≥ a) : a ≤ b := by lia
theorem om276 {a : Nat} (h1 : (0 : Nat) < a) : ¬a = (0 : Nat) := Nat.ne_zero_of_lt h1
theorem om277 {a b : Nat} (h1 : b ≤ (1 : Nat)) (h2 : a = b) (h3 : (0 : Nat) < b) : a = (1 : Nat) := by lia
theorem om278   : ¬(0 : Nat) + (1 : Nat) = (0 : Nat) := Nat.add_one_ne_zero 0
theorem om279 {a b : Nat} (h1 : b ≤ (1 : Nat)) (h2 : a < b) : a = (0 : Nat) := Nat.le_zero.mp (Nat.le_of_lt_succ (Nat.lt_of_lt_of_le h2 h1))
theorem om280 {a b : Nat} (h1 : a = b) : (0 : Nat) + a = b := by lia
theorem om281 {a b c : Nat} (h1 : a = c) (h2 : b ≥ c) : a ≤ b := le_of_eq_of_le h1 h2
theorem om282 {a b : Nat} (h1 : a < b) (h2 : b ≤ (100 : Nat)) : a + (1 : Nat) < (4096 : Nat) := Nat.lt_of_le_of_lt (Nat.le_trans h1 h2) (by decide)
theorem om283 {a b c d : Nat} (h1 : a = c) (h2 : c + d ≤ (1000000 : Nat)) (h3 : b = d) : a + b ≤ (16777216 : Nat) + (1 : Nat) := by lia
theorem om284 {a b c : Nat} (h1 : a = b) (h2 : b + c ≤ (1000000 : Nat)) : a ≤ (16777216 : Nat) := by lia
theorem om285 {a b c d : Nat} (h1 : a = b) (h2 : b + c ≤ (1000000 : Nat)) (h3 : d = c) (h4 : a + d > (16777216 : Nat)) : False := by lia
theorem om286 {a : Nat}  : ¬(↑a : Int) < (0 : Int) := Int.not_ofNat_neg a
theorem om287 {a b : Nat} (h1 : b ≤ (1000000 : Nat)) (h2 : a = b) : a ≤ (16777216 : Nat) := by omega
theorem om288 {a b : Nat} (h1 : b ≤ (1000000 : Nat)) (h2 : a = b) : a ≤ (1000000 : Nat) := by omega
theorem om289 {a b : Nat} (h1 : (1 : Nat) ≤ b) (h2 : a = b) : (1 : Nat) ≤ a := le_of_le_of_eq h1 (id (Eq.symm h2))
theorem om290 {a b : Nat} (h1 : (1 : Nat) ≤ a) (h2 : (1 : Nat) ≤ b) : (↑(min a b) : Int) ≠ (0 : Int) := by lia
theorem om291 {a b c d : Nat} (h1 : b ≤ d) : min a b - c ≤ d := Nat.le_trans (Nat.sub_le _ _) (Nat.le_trans (Nat.min_le_right a b) h1)
theorem om292 {a b c : Nat} (h1 : ¬b ≤ a) : a ≤ b + c := by lia
theorem om293 {a b c : Nat}  : ¬a < min b c - c := fun h => absurd (Nat.sub_eq_zero_of_le (Nat.min_le_right b c) ▸ h) (Nat.not_lt_zero a)
theorem om294 {a b : Nat} (h1 : ¬b ≤ a) : a ≤ b := Nat.le_of_not_ge h1
theorem om295 {a b c d : Nat} (h1 : ¬c < min d a - b) (h2 : b + c < d) : a ≤ b + c := by omega
theorem om296 {a b c d : Nat} (h1 : b < min c d - a) : a + b < c := Nat.lt_of_lt_of_le (Nat.add_lt_of_lt_sub' h1) (Nat.min_le_left c d)
theorem om297 {a b : Nat}  : ((↑a : Int) + (↑b : Int) * (1 : Int)).toNat = a + b := (congrArg (fun x => ((a : Int) + x).toNat) (Int.mul_one (b : Int))).trans rfl
theorem om298 {a b : Nat}  : ((↑a : Int) - (↑b : Int) - (1 : Int) + (1 : Int)).toNat = a - b := (congrArg Int.toNat (Int.sub_add_cancel ((a : Int) - b) 1)).trans (Int.toNat_sub a b)
theorem om299 {a b : Nat} (h1 : ¬(↑b : Int) < (↑a : Int)) : Int.toNat (0 : Int) = a - b := (Nat.sub_eq_zero_of_le (Int.ofNat_le.mp (Int.not_lt.mp h1))).symm
theorem om300 {a b : Nat}  : min (↑a : Int) (↑b : Int) = (↑(min a b) : Int) := by omega
theorem om301 {a : Nat} (h1 : a < (20 : Nat)) : a < (30 : Nat) := Nat.lt_of_lt_of_le h1 (by decide)
theorem om302 {a b c : Nat} (h1 : b < (1000 : Nat)) (h2 : c = b) (h3 : c = a) : a ≤ (16777216 : Nat) := by lia
theorem om303 {a b c d : Nat} (h1 : c = d) (h2 : a = d) (h3 : b = c) : a = b := by lia
theorem om304 {a b : Nat} (h1 : b < a) : a - (b + (1 : Nat)) < a - b := Nat.sub_succ_lt_self a b h1
theorem om307 {a b : Nat} (h1 : a = b) : a ≤ b + (2 : Nat) := Nat.le.intro (congrFun (congrArg HAdd.hAdd h1) 2)
theorem om308 {a b : Nat} (h1 : a = b) : a ≤ b + (1 : Nat) := Nat.le.intro (congrFun (congrArg HAdd.hAdd h1) 1)
theorem om309 {a b c : Nat} (h1 : a = b ∨ a < b) (h2 : c ≠ (0 : Nat)) : a ≠ b + c := by lia
theorem om310 {a b : Nat} (h1 : b ≠ (0 : Nat)) : a ≠ a + b := by lia
theorem om311 {a b c : Nat} (h1 : b ≠ c) : a + b ≠ a + c := by lia
theorem om312 {a b c : Nat} (h1 : a < b) : a ≠ b + c := by lia
theorem om313 {a b : Nat} (h1 : ¬b < a) : a + (b - a) = b := Nat.add_sub_cancel' (Nat.le_of_not_lt h1)
theorem om314 {a b c : Nat} (h1 : c = b) (h2 : a < c) : a < b := Nat.lt_of_lt_of_eq h2 h1
theorem om315 {a b : Nat} (h1 : a = b) : ¬a > b := by lia
theorem om316 {a b : Nat} (h1 : a ≤ (250 : Nat)) (h2 : b = (9900 : Nat)) : (4 : Nat) + (3 : Nat) + (12 : Nat) * a + (700 : Nat) < b := by lia
theorem om317 {a b : Nat} (h1 : b ≤ (250 : Nat)) (h2 : a = (300 : Nat)) : (1 : Nat) + a + (1 : Nat) + (2 : Nat) * b < (890 : Nat) := by lia
theorem om318 {a b : Nat} (h1 : a + (2 : Nat) * (b + (1 : Nat)) < (890 : Nat)) : a + (1 : Nat) < (1000 : Nat) := by lia
theorem om319 {a b : Nat} (h1 : a + (2 : Nat) * (b + (1 : Nat)) < (890 : Nat)) : a < (1000 : Nat) := by omega
theorem om320 {a b c : Nat} (h1 : a + (12 : Nat) * (b + (1 : Nat)) + (700 : Nat) < c) : a + (1 : Nat) + (3 : Nat) + (12 : Nat) * b + (700 : Nat) < c := by lia
theorem om321 {a b : Nat} (h1 : a + (2 : Nat) * (b + (1 : Nat)) < (890 : Nat)) : a + (1 : Nat) + (1 : Nat) + (2 : Nat) * b < (890 : Nat) := by lia
theorem om322 {a b c : Nat} (h1 : a + (12 : Nat) * (b + (1 : Nat)) + (700 : Nat) < c) : a + (3 : Nat) + (12 : Nat) * b + (700 : Nat) < c := by lia
theorem om323 {a b : Nat} (h1 : a + (2 : Nat) * (b + (1 : Nat)) < (890 : Nat)) : a + (1 : Nat) + (2 : Nat) * b < (890 : Nat) := by lia
end Mine

/-! An evaluator of my own over a small tree language (PE, PS), abstract values (PV), tracked objects (AObj). -/
set_option autoImplicit false
set_option backward.match.sparseCases false
set_option genSizeOf false
set_option genInjectivity false
namespace Mine
open PySem

/-- abstract values -/
inductive PV where
  | undef
  | none
  | bool (b : Bool)
  | int (i : Int)
  | str (s : Str)
  | tup (l : List PV)
  | lst (l : List PV)
  | dct (l : List (Str × PV))
  | rng (lo hi : Int)
  | ref (n : Nat)

/-- tracked objects -/
inductive AObj where
  | list (lk : Bool) (l : List PV)
  | dict (lk : Bool) (l : List (Str × PV))
  | inst (c : Str) (d : Nat)
  | ns (l : List (Str × PV))

noncomputable abbrev AH := List AObj

inductive Res (α : Type) where
  | ok (a : α) (σ : AH)
  | exc (e : PV) (σ : AH)
  | bad
set_option genCtorIdx false

@[simp] noncomputable def Res.bind {α β : Type} : Res α → (α → AH → Res β) → Res β
  | .ok a σ, f => f a σ
  | .exc e σ, _ => .exc e σ
  | .bad, _ => .bad

/-- targets of a for, a comprehension or an assignment -/
inductive Tgt where
  | one (i : Nat)
  | many (is : List Nat)

set_option genCtorIdx true
inductive Ty where
  | int | bool | str | tuple | list | dict
  deriving DecidableEq

/-- built-in functions -/
inductive BI where
  | len | sorted | tuple | list | dict | str | int | abs | range | range2 | min2 | sum | sortedSet
  | isinst (t : Ty)

/-- built-in methods -/
inductive BM where
  | append | extend | get

set_option genCtorIdx false
mutual
inductive PE where
  | const (c : Const)
  | loc (i : Nat)
  | andE (es : PEs)
  | orE (es : PEs)
  | bin (op : Operator) (a b : PE)
  | notE (a : PE)
  | neg (a : PE)
  | cmp (op : CmpOp) (a b : PE)
  | tup (es : PEs)
  | lst (es : PEs)
  | edict
  | idx (a i : PE)
  | sliceF (a lo : PE)
  | sliceFT (a lo hi : PE)
  | glob (x : Str)
  | attr (a : PE) (x : Str)
  | umeth (o : PE) (x : Str) (args : PEs)
  | new (k : Str) (args : PEs)
  | comp (elt : PE) (t : Tgt) (it : PE) (cond : PE)
  | call (f : Str) (args : PEs)
  | bi (b : BI) (args : PEs)
  | meth (o : PE) (m : BM) (args : PEs)
inductive PEs where
  | nil
  | cons (e : PE) (es : PEs)
end

mutual
inductive PS where
  | assign (i m : Nat) (e : PE)
  | setitem (o i : PE) (m : Nat) (v : PE)
  | assignT (is : List Nat) (e : PE)
  | setattr (o : PE) (x : Str) (m : Nat) (v : PE)
  | whileS (t : PE) (body : PSs) (kills : List Nat)
  | expr (e : PE)
  | ret (m : Nat) (e : PE)
  | ite (t : PE) (b o : PSs)
  | forS (t : Tgt) (it : PE) (body : PSs) (kills : List Nat)
inductive PSs where
  | nil
  | cons (s : PS) (ss : PSs)
end

structure Fn where
  nargs : Nat
  slots : Nat
  body : PSs
  keep : Bool

structure Glob where
  const : Str → Option PV
  fn : Str → Option Fn
  atr : Str → Bool

set_option genCtorIdx true
inductive Flw where
  | next | brk | cont
  | ret (v : PV)
set_option genCtorIdx false


/-! ## plain operations -/

noncomputable def dput {α : Type} (kvs : List (Str × α)) (k : Str) (v : α) : List (Str × α) :=
  if kvs.any (fun kv => kv.1 = k) then kvs.map (fun kv => if kv.1 = k then (kv.1, v) else kv) else kvs ++ [(k, v)]
noncomputable def dget {α : Type} (kvs : List (Str × α)) (k : Str) : Option α := (kvs.find? fun kv => kv.1 = k).map (·.2)
noncomputable def dhas {α : Type} (kvs : List (Str × α)) (k : Str) : Bool := kvs.any fun kv => kv.1 = k
noncomputable def ddel {α : Type} (kvs : List (Str × α)) (k : Str) : List (Str × α) := kvs.filter fun kv => ¬ kv.1 = k

/-- a made thing: fresh, not yet named by anybody -/
inductive Frs where
  | list (l : List PV)
  | dict (l : List (Str × PV))
noncomputable def Frs.val : Frs → PV
  | .list l => .lst l
  | .dict l => .dct l
noncomputable def Frs.obj : Frs → AObj
  | .list l => .list false l
  | .dict l => .dict false l
inductive Out where
  | v (v : PV)
  | f (f : Frs)

noncomputable def box (m : Nat) (f : Frs) (σ : AH) : Res PV := match m with
  | 0 => .ok f.val σ
  | _ + 1 => .ok (.ref σ.length) (σ ++ [f.obj])
noncomputable def fin (m : Nat) (o : Option Out) (σ : AH) : Res PV := match o with
  | some (.v v) => .ok v σ
  | some (.f f) => box m f σ
  | none => .bad

/-- a tracked list or dict as a value -/
noncomputable def derefO : Option AObj → PV
  | some (.list _ l) => .lst l
  | some (.dict _ l) => .dct l
  | _ => .undef
noncomputable def deref (σ : AH) : PV → PV
  | .ref i => derefO σ[i]?
  | v => v
noncomputable def intOf : PV → Option Int
  | .int i => some i
  | _ => none
noncomputable def strOf : PV → Option Str
  | .str x => some x
  | _ => none
noncomputable def tupOf : PV → Option (List PV)
  | .tup l => some l
  | _ => none
noncomputable def lstOf : PV → Option (List PV)
  | .lst l => some l
  | _ => none
noncomputable def dctOf : PV → Option (List (Str × PV))
  | .dct l => some l
  | _ => none
noncomputable def refOf : PV → Option Nat
  | .ref i => some i
  | _ => none
noncomputable def seqOf : PV → Option (List PV)
  | .tup l => some l
  | .lst l => some l
  | _ => none
/-- both values of both kinds -/
noncomputable def both {α β γ : Type} (f : PV → Option α) (g : PV → Option β) (a b : PV) (h : α → β → Option γ) (k : Option γ) : Option γ :=
  match f a, g b with
  | some x, some y => h x y
  | _, _ => k
/-- the content of a sequence, a dict -/
noncomputable def asList (σ : AH) (v : PV) : Option (List PV) := lstOf (deref σ v)
noncomputable def asSeq (σ : AH) (v : PV) : Option (List PV) := seqOf (deref σ v)

noncomputable def signs (x : Str) : List PV := x.cps.toList.map fun c => .str ⟨#[c]⟩
noncomputable def rngInts (lo hi : Int) : List PV := (List.range (hi - lo).toNat).map fun (k : Nat) => .int (lo + (k : Int))
/-- what a for goes through -/
noncomputable def itemsD : PV → Option (List PV)
  | .tup l => some l
  | .lst l => some l
  | .dct l => some (l.map fun kv => .str kv.1)
  | .rng lo hi => some (rngInts lo hi)
  | .str x => some (signs x)
  | _ => none
noncomputable def items (σ : AH) (v : PV) : Option (List PV) := itemsD (deref σ v)

/-- lengths that the walk lets pass -/
noncomputable def small (n : Nat) : Bool := decide (n ≤ 1000000)

noncomputable def truthN (n : Nat) : Option Bool := if small n then some (n != 0) else none
noncomputable def truthD : PV → Option Bool
  | .none => some false
  | .bool b => some b
  | .int i => some (i != 0)
  | .str x => truthN x.length
  | .tup l => truthN l.length
  | .lst l => truthN l.length
  | _ => none
noncomputable def truth (σ : AH) (v : PV) : Option Bool := truthD (deref σ v)

-- the value with new tracked things as values
mutual
noncomputable def frzW (d : Nat → Option PV) : PV → Option PV
  | .ref i => d i
  | .tup l => (frzWs d l).map .tup
  | .lst l => (frzWs d l).map .lst
  | .dct l => (frzWd d l).map .dct
  | v => some v
noncomputable def frzWs (d : Nat → Option PV) : List PV → Option (List PV)
  | [] => some []
  | v :: r => (frzW d v).bind fun x => (frzWs d r).map (x :: ·)
noncomputable def frzWd (d : Nat → Option PV) : List (Str × PV) → Option (List (Str × PV))
  | [] => some []
  | (k, v) :: r => (frzW d v).bind fun x => (frzWd d r).map ((k, x) :: ·)
end
noncomputable def frzO (d : Nat → Option PV) : Option AObj → Option PV
  | some (.list _ l) => (frzWs d l).map .lst
  | some (.dict _ l) => (frzWd d l).map .dct
  | _ => none
noncomputable def frz (n : Nat) (σ : AH) : Nat → PV → Option PV
  | 0 => frzW fun i => if i < n then some (.ref i) else none
  | k + 1 => frzW fun i => if i < n then some (.ref i) else frzO (fun j => frz n σ k (.ref j)) σ[i]?

end Mine

set_option autoImplicit false
set_option backward.match.sparseCases false
namespace Mine
open PySem

noncomputable def repStr (x : Str) (n : Int) : Str := ⟨(List.replicate n.toNat x.cps).foldl (· ++ ·) #[]⟩
noncomputable def strLt (x y : Str) : Bool := decide (x.cps.toList < y.cps.toList)
noncomputable def sortS (l : List Str) : List Str := l.mergeSort fun a b => !strLt b a

noncomputable def strsOf : List PV → Option (List Str)
  | [] => some []
  | v :: r => (strOf v).bind fun x => (strsOf r).map (x :: ·)
/-- pairs of a text and a value -/
noncomputable def pairOf : PV → Option (Str × PV)
  | .tup [.str k, v] => some (k, v)
  | _ => none
noncomputable def pairsOf : List PV → Option (List (Str × PV))
  | [] => some []
  | v :: r => (pairOf v).bind fun p => (pairsOf r).map (p :: ·)
noncomputable def dictOfPairs (l : List (Str × PV)) : List (Str × PV) := l.foldl (fun d kv => dput d kv.1 kv.2) []

open Classical in
noncomputable def binop (σ : AH) (op : Operator) (a b : PV) : Option Out := match op with
  | .Add => both intOf intOf a b (fun x y => some (.v (.int (x + y)))) (both strOf strOf a b (fun x y => if x.length + y.length ≤ 1000000 then some (.v (.str (x ++ y))) else none)
      (both lstOf lstOf (deref σ a) (deref σ b) (fun x y => if x.length + y.length ≤ 1000000 then some (.f (.list (x ++ y))) else none) none))
  | .Sub => both intOf intOf a b (fun x y => some (.v (.int (x - y)))) none
  | .Mult => both intOf intOf a b (fun x y => if IntMulOk x y then some (.v (.int (x * y))) else none) (both strOf intOf a b (fun x n => if n ≤ 1000 ∧ -1000 ≤ n ∧ x.length ≤ 1000 then some (.v (.str (repStr x n))) else none) none)
  | .FloorDiv => both intOf intOf a b (fun x y => if y = 0 then none else some (.v (.int (x.fdiv y)))) none
  | .Mod => both intOf intOf a b (fun x y => if y = 0 then none else some (.v (.int (x.fmod y)))) none
  | .Pow => both intOf intOf a b (fun x n => if 0 ≤ n ∧ n ≤ 1000000 ∧ x.natAbs < 2 ^ 64 then some (.v (.int (x ^ n.toNat))) else none) none
  | _ => none

noncomputable def pickAt (l : List PV) (k : Int) : Option Out := if 0 ≤ k ∧ k ≤ 1000000 then (l[k.toNat]?).map .v else none

/-- slices: lo and hi from 0 on -/
noncomputable def cutD (lo hi : Nat) : PV → Option Out
  | .tup l => if small l.length && decide (1 ≤ lo) && decide (1 ≤ l.length) then some (.v (.tup ((l.take hi).drop lo))) else none
  | .lst l => if small l.length then some (.f (.list ((l.take hi).drop lo))) else none
  | _ => none
noncomputable def natOf (v : PV) : Option Nat := (intOf v).bind fun i => if 0 ≤ i ∧ i ≤ 1000000 then some i.toNat else none
noncomputable def cutP (σ : AH) (a lo hi : PV) : Option Out := (natOf lo).bind fun i => (natOf hi).bind fun j => cutD i j (deref σ a)
noncomputable def cutF (σ : AH) (a lo : PV) : Option Out := (natOf lo).bind fun i => cutD i 1000000 (deref σ a)
noncomputable def signOf (x : Str) (k : Int) : Option Out := if 0 ≤ k ∧ k ≤ 1000000 then (x.cps[k.toNat]?).map fun c => .v (.str ⟨#[c]⟩) else none
noncomputable def getAt (σ : AH) (a i : PV) : Option Out :=
  both seqOf intOf (deref σ a) i pickAt (both strOf intOf a i signOf (both dctOf strOf (deref σ a) i (fun l k => (dget l k).map .v) none))

mutual
noncomputable def pureV : PV → Bool
  | .none | .bool _ | .int _ | .str _ => true
  | .tup l => pureVs l
  | .lst l => pureVs l
  | _ => false
noncomputable def pureVs : List PV → Bool
  | [] => true
  | v :: r => pureV v && pureVs r
end
mutual
noncomputable def deep : PV → Nat
  | .tup l => deeps l + 1
  | .lst l => deeps l + 1
  | _ => 0
noncomputable def deeps : List PV → Nat
  | [] => 0
  | v :: r => max (deep v) (deeps r)
end
noncomputable def boolOf : PV → Option Bool
  | .bool b => some b
  | _ => none
noncomputable def isNone : PV → Bool
  | .none => true
  | _ => false
mutual
noncomputable def pvEq : PV → PV → Bool
  | .none, b => isNone b
  | .bool a, b => (intOf b).any (fun j => (if a then 1 else 0) == j) || (boolOf b).any (a == ·)
  | .int i, b => (boolOf b).any (fun c => i == if c then 1 else 0) || (intOf b).any (i == ·)
  | .str x, b => (strOf b).any (x == ·)
  | .tup l, b => (tupOf b).any (pvEqs l)
  | .lst l, b => (lstOf b).any (pvEqs l)
  | _, _ => false
noncomputable def pvEqs : List PV → List PV → Bool
  | [], r => r.isEmpty
  | v :: l, r => r.head?.any (pvEq v) && pvEqs l r.tail
end
noncomputable def plain (v : PV) : Bool := pureV v && decide (deep v ≤ 200)

noncomputable def dctEq (l r : List (Str × PV)) : Bool := l.length == r.length && l.all fun kv => (dget r kv.1).any (pvEq kv.2)
noncomputable def plainD (l : List (Str × PV)) : Bool := l.all fun kv => plain kv.2
noncomputable def eqV (a b : PV) : Option Bool := if plain a && plain b then some (pvEq a b) else none
noncomputable def eqP (σ : AH) (a b : PV) : Option Bool := both dctOf dctOf (deref σ a) (deref σ b) (fun l r => if plainD l && plainD r then some (dctEq l r) else none) (eqV (deref σ a) (deref σ b))

noncomputable def cmpP (σ : AH) (op : CmpOp) (a b : PV) : Option Bool := match op with
  | .Eq => eqP σ a b
  | .NotEq => (eqP σ a b).map (!·)
  | .Lt => both intOf intOf a b (fun x y => some (decide (x < y))) (both strOf strOf a b (fun x y => some (strLt x y)) none)
  | .LtE => both intOf intOf a b (fun x y => some (decide (x ≤ y))) (both strOf strOf a b (fun x y => some (!strLt y x)) none)
  | .Gt => both intOf intOf a b (fun x y => some (decide (x > y))) (both strOf strOf a b (fun x y => some (strLt y x)) none)
  | _ => none

noncomputable def tyD : PV → Option Ty
  | .int _ => some .int
  | .str _ => some .str
  | .tup _ => some .tuple
  | .lst _ => some .list
  | .dct _ => some .dict
  | _ => none
noncomputable def isTyD (t : Ty) : PV → Option Bool
  | .none => some false
  | .bool _ => some (t == .bool || t == .int)
  | v => (tyD v).map (t == ·)
noncomputable def isTy (σ : AH) (t : Ty) (v : PV) : Option Bool := isTyD t (deref σ v)

noncomputable def lenD : PV → Option Nat
  | .str x => some x.length
  | .tup l => some l.length
  | .lst l => some l.length
  | .dct l => some l.length
  | _ => none
noncomputable def lenP (σ : AH) (v : PV) : Option Nat := lenD (deref σ v)

/-- how many texts sorted() is let take -/
noncomputable def sortMost : Nat := 64

noncomputable def sortD : PV → Option (List Str)
  | .lst l => strsOf l
  | .dct l => some (l.map (·.1))
  | _ => none
noncomputable def sortArg (σ : AH) (v : PV) : Option (List Str) := sortD (deref σ v)
noncomputable def one {α : Type} : List α → Option α
  | [v] => some v
  | _ => none
noncomputable def biLen (σ : AH) (args : List PV) : Option Out := (one args).bind fun v => (lenP σ v).bind fun n => if small n then some (.v (.int n)) else none
noncomputable def biSorted (σ : AH) (args : List PV) : Option Out := (one args).bind fun v => (sortArg σ v).bind fun l => if l.length < sortMost then some (.f (.list ((sortS l).map .str))) else none
noncomputable def biTuple (σ : AH) (args : List PV) : Option Out := (one args).bind fun v => (asSeq σ v).bind fun l => if small l.length then some (.v (.tup l)) else none
noncomputable def dictD : PV → Option Out
  | .dct l => if small l.length then some (.f (.dict l)) else none
  | .tup l => (pairsOf l).bind fun r => if small r.length then some (.f (.dict (dictOfPairs r))) else none
  | _ => none
noncomputable def biDict (σ : AH) (args : List PV) : Option Out := (one args).bind fun v => dictD (deref σ v)
noncomputable def biStr (args : List PV) : Option Out := (one args).bind fun v => (intOf v).bind fun i => if i.natAbs < 10 ^ 40 then some (.v (.str (Str.ofString (toString i)))) else none
noncomputable def biRange (args : List PV) : Option Out := (one args).bind fun v => (intOf v).bind fun n => if n.natAbs ≤ 1000000 then some (.v (.rng 0 n)) else none
noncomputable def biIsinst (σ : AH) (t : Ty) (args : List PV) : Option Out := (one args).bind fun v => (isTy σ t v).map fun b => .v (.bool b)
noncomputable def listD : PV → Option Out
  | .str _ => none
  | v => (itemsD v).bind fun l => if small l.length then some (.f (.list l)) else none
noncomputable def biList (σ : AH) (args : List PV) : Option Out := (one args).bind fun v => listD (deref σ v)
noncomputable def pair2 {α : Type} : List α → Option (α × α)
  | [v, x] => some (v, x)
  | _ => none
noncomputable def biInt (args : List PV) : Option Out := (one args).bind fun v => (boolOf v).bind fun b => some (.v (.int (if b then 1 else 0)))
noncomputable def biAbs (args : List PV) : Option Out := (one args).bind fun v => (intOf v).bind fun i => some (.v (.int i.natAbs))
noncomputable def biRange2 (args : List PV) : Option Out := (pair2 args).bind fun p => both intOf intOf p.1 p.2 (fun a n => if n.natAbs ≤ 1000000 ∧ a.natAbs ≤ 1000000 then some (.v (.rng a n)) else none) none
noncomputable def biMin2 (args : List PV) : Option Out := (pair2 args).bind fun p => both intOf intOf p.1 p.2 (fun a b => some (.v (.int (if b < a then b else a)))) none
noncomputable def intsOf : List PV → Option (List Int)
  | [] => some []
  | v :: r => (intOf v).bind fun x => (intsOf r).map (x :: ·)
noncomputable def biSum (σ : AH) (args : List PV) : Option Out := (one args).bind fun v => (asList σ v).bind fun l => (intsOf l).bind fun ns => if small ns.length then some (.v (.int (ns.foldl (· + ·) 0))) else none
/-- first met -/
noncomputable def stepS (ss : List Str) (x : Str) : List Str := if x ∈ ss then ss else ss ++ [x]
noncomputable def setD : PV → Option (List Str)
  | .lst l => strsOf l
  | _ => none
noncomputable def biSortedSet (σ : AH) (args : List PV) : Option Out := (one args).bind fun v => (setD (deref σ v)).bind fun l => if l.length < sortMost then some (.f (.list ((sortS (l.foldl stepS [])).map .str))) else none
noncomputable def biP (σ : AH) (b : BI) (args : List PV) : Option Out := match b with
  | .len => biLen σ args
  | .sorted => biSorted σ args
  | .tuple => biTuple σ args
  | .dict => biDict σ args
  | .list => biList σ args
  | .int => biInt args
  | .abs => biAbs args
  | .range2 => biRange2 args
  | .min2 => biMin2 args
  | .sum => biSum σ args
  | .sortedSet => biSortedSet σ args
  | .str => biStr args
  | .range => biRange args
  | .isinst t => biIsinst σ t args

/-- the kind of thing that a method wants -/
noncomputable def BM.ty : BM → Ty
  | .append | .extend => .list
  | .get => .dict
/-- an open list, an open dict -/
noncomputable def openL (σ : AH) (i : Nat) : Option (List PV) := match σ[i]? with
  | some (.list false l) => some l
  | _ => none
noncomputable def openD (σ : AH) (i : Nat) : Option (List (Str × PV)) := match σ[i]? with
  | some (.dict false l) => some l
  | _ => none
noncomputable def pairA {α : Type} : List α → Option (α × α)
  | [v, x] => some (v, x)
  | _ => none
/-- an instance: its class, where its attributes lie, they -/
noncomputable def nsAt (σ : AH) (d : Nat) : Option (List (Str × PV)) := match σ[d]? with
  | some (.ns l) => some l
  | _ => none
noncomputable def instAt (σ : AH) (i : Nat) : Option (Str × Nat × List (Str × PV)) := match σ[i]? with
  | some (.inst k d) => (nsAt σ d).map fun l => (k, d, l)
  | _ => none
noncomputable def instOf (σ : AH) (v : PV) : Option (Str × Nat × List (Str × PV)) := (refOf v).bind (instAt σ)
/-- methods: what they give back and the tracked things behind -/
noncomputable def bmP (σ : AH) (m : BM) (o : PV) (args : List PV) : Option (PV × AH) := match m with
  | .append => (one args).bind fun v => (refOf o).bind fun i => (openL σ i).bind fun l => if small l.length then some (.none, σ.set i (.list false (l ++ [v]))) else none
  | .extend => (one args).bind fun v => (refOf o).bind fun i => (asSeq σ v).bind fun r => (openL σ i).bind fun l => if small (l.length + r.length) then some (.none, σ.set i (.list false (l ++ r))) else none
  | .get => (pairA args).bind fun p => (strOf p.1).bind fun k => (dctOf (deref σ o)).bind fun l => some ((dget l k).getD p.2, σ)

end Mine

set_option autoImplicit false
set_option backward.match.sparseCases false
namespace Mine
open PySem

structure Cx where
  gl : Str → Option PV
  cal : Str → List PV → AH → Res PV
  atr : Str → Bool

noncomputable def setAll : List PV → List Nat → List PV → List PV
  | ρ, i :: is, v :: vs => setAll (ρ.set i v) is vs
  | ρ, _, _ => ρ
noncomputable def bindT : Tgt → PV → List PV → Option (List PV)
  | .one i, v, ρ => some (ρ.set i v)
  | .many is, .tup l, ρ => if l.length = is.length then some (setAll ρ is l) else none
  | _, _, _ => none
noncomputable def kill (ks : List Nat) (ρ : List PV) : List PV := ks.foldl (fun ρ i => ρ.set i .undef) ρ

/-- a thing that a loop goes through is locked meanwhile -/
noncomputable def lockAt (σ : AH) (i : Nat) (b : Bool) : AH := match σ[i]? with
  | some (.list _ l) => σ.set i (.list b l)
  | some (.dict _ l) => σ.set i (.dict b l)
  | _ => σ
noncomputable def lkAt (σ : AH) (i : Nat) : Bool := match σ[i]? with
  | some (.list b _) => b
  | some (.dict b _) => b
  | _ => false
noncomputable def lockV (σ : AH) (v : PV) (b : Bool) : AH := match v with
  | .ref i => lockAt σ i b
  | _ => σ
noncomputable def tgtSlots : Tgt → List Nat
  | .one i => [i]
  | .many is => is

noncomputable def lkV (σ : AH) (v : PV) : Bool := match v with
  | .ref i => lkAt σ i
  | _ => false
/-- behind a loop: as it was locked before -/
noncomputable def unlock {α : Type} (v : PV) (b : Bool) : Res α → Res α
  | .ok a σ => .ok a (lockV σ v b)
  | .exc e σ => .exc e (lockV σ v b)
  | .bad => .bad

noncomputable def compL (cond elt : List PV → AH → Res PV) (t : Tgt) (ρ : List PV) : List PV → AH → Res (List PV)
  | [], σ => .ok [] σ
  | x :: xs, σ => match bindT t x ρ with
    | none => .bad
    | some ρ1 => (cond ρ1 σ).bind fun b σ1 => match truth σ1 b with
      | some true => (elt ρ1 σ1).bind fun v σ2 => (compL cond elt t ρ xs σ2).bind fun vs σ3 => .ok (v :: vs) σ3
      | some false => compL cond elt t ρ xs σ1
      | none => .bad

noncomputable def constP : Const → Option PV
  | .none => some .none
  | .bool b => some (.bool b)
  | .int i => some (.int i)
  | .str x => some (.str x)
  | _ => none

noncomputable def okB (o : Option Bool) (σ : AH) : Res PV := match o with
  | some b => .ok (.bool b) σ
  | none => .bad

noncomputable def okV (o : Option PV) (σ : AH) : Res PV := match o with
  | some v => .ok v σ
  | none => .bad
noncomputable def methK (k x : Str) : Str := k ++ ⟨#[46]⟩ ++ x
noncomputable def attrP (c : Cx) (σ : AH) (v : PV) (x : Str) : Option PV := (instOf σ v).bind fun p => if c.atr x then dget p.2.2 x else none
noncomputable def methP (σ : AH) (v : PV) (x : Str) : Option Str := (instOf σ v).bind fun p => if (dget p.2.2 x).isNone then some (methK p.1 x) else none
/-- the new instance behind its __init__ -/
noncomputable def madeV (n : Nat) : PV → AH → Res PV
  | .none, σ => .ok (.ref n) σ
  | _, _ => .bad
noncomputable def okN (o : Option Str) (f : Str → Res PV) : Res PV := match o with
  | some k => f k
  | none => .bad
noncomputable def pickB {α : Type} (o : Option Bool) (a b : Res α) : Res α := match o with
  | some true => a
  | some false => b
  | none => .bad
mutual
noncomputable def ev (c : Cx) : PE → Nat → List PV → AH → Res PV
  | .const k, _, _, σ => match constP k with | some v => .ok v σ | none => .bad
  | .loc i, _, ρ, σ => match ρ[i]? with
    | some .undef => .bad
    | some v => .ok v σ
    | none => .bad
  | .andE es, _, ρ, σ => evAnd c es ρ σ
  | .orE es, _, ρ, σ => evOr c es ρ σ
  | .bin op a b, m, ρ, σ => (ev c a 0 ρ σ).bind fun x σ1 => (ev c b 0 ρ σ1).bind fun y σ2 => fin m (binop σ2 op x y) σ2
  | .notE a, _, ρ, σ => (ev c a 0 ρ σ).bind fun x σ1 => okB ((truth σ1 x).map (!·)) σ1
  | .neg a, _, ρ, σ => (ev c a 0 ρ σ).bind fun x σ1 => match x with
    | .int i => .ok (.int (-i)) σ1
    | _ => .bad
  | .cmp op a b, _, ρ, σ => (ev c a 0 ρ σ).bind fun x σ1 => (ev c b 0 ρ σ1).bind fun y σ2 => okB (cmpP σ2 op x y) σ2
  | .tup es, _, ρ, σ => (evs c es 0 ρ σ).bind fun vs σ1 => .ok (.tup vs) σ1
  | .lst es, m, ρ, σ => (evs c es m.pred ρ σ).bind fun vs σ1 => box m (.list vs) σ1
  | .edict, m, _, σ => box m (.dict []) σ
  | .idx a i, _, ρ, σ => (ev c a 0 ρ σ).bind fun x σ1 => (ev c i 0 ρ σ1).bind fun k σ2 => fin 0 (getAt σ2 x k) σ2
  | .sliceF a lo, m, ρ, σ => (ev c a 0 ρ σ).bind fun x σ1 => (ev c lo 0 ρ σ1).bind fun k σ2 => fin m (cutF σ2 x k) σ2
  | .sliceFT a lo hi, m, ρ, σ => (ev c a 0 ρ σ).bind fun x σ1 => (ev c lo 0 ρ σ1).bind fun k σ2 => (ev c hi 0 ρ σ2).bind fun j σ3 => fin m (cutP σ3 x k j) σ3
  | .glob x, _, _, σ => okV (c.gl x) σ
  | .attr a x, _, ρ, σ => (ev c a 0 ρ σ).bind fun v σ1 => okV (attrP c σ1 v x) σ1
  | .umeth o x args, _, ρ, σ => (ev c o 0 ρ σ).bind fun v σ1 => okN (methP σ1 v x) fun f => (evs c args 0 ρ σ1).bind fun vs σ2 => c.cal f (v :: vs) σ2
  | .new k args, _, ρ, σ => (evs c args 0 ρ σ).bind fun vs σ1 => (c.cal (methK k "__init__") (.ref (σ1.length + 1) :: vs) (σ1 ++ [.ns []] ++ [.inst k σ1.length])).bind (madeV (σ1.length + 1))
  | .comp elt t it cond, m, ρ, σ => (ev c it 0 ρ σ).bind fun v σ1 => match items σ1 v with
    | none => .bad
    | some l => (unlock v (lkV σ1 v) (compL (ev c cond 0) (ev c elt m.pred) t (kill (tgtSlots t) ρ) l (lockV σ1 v true))).bind fun vs σ2 => if small vs.length then box m (.list vs) σ2 else .bad
  | .call f args, _, ρ, σ => (evs c args 0 ρ σ).bind fun vs σ1 => c.cal f vs σ1
  | .bi b args, m, ρ, σ => (evs c args 0 ρ σ).bind fun vs σ1 => fin m (biP σ1 b vs) σ1
  | .meth o mt args, _, ρ, σ => (ev c o 0 ρ σ).bind fun x σ1 => if isTy σ1 mt.ty x = some true then (evs c args 0 ρ σ1).bind fun vs σ2 => match bmP σ2 mt x vs with
      | some (v, σ3) => .ok v σ3
      | none => .bad
    else .bad
noncomputable def evs (c : Cx) : PEs → Nat → List PV → AH → Res (List PV)
  | .nil, _, _, σ => .ok [] σ
  | .cons e es, m, ρ, σ => (ev c e m ρ σ).bind fun v σ1 => (evs c es m ρ σ1).bind fun vs σ2 => .ok (v :: vs) σ2
noncomputable def evAnd (c : Cx) : PEs → List PV → AH → Res PV
  | .nil, _, _ => .bad
  | .cons e .nil, ρ, σ => ev c e 0 ρ σ
  | .cons e es, ρ, σ => (ev c e 0 ρ σ).bind fun v σ1 => pickB (truth σ1 v) (evAnd c es ρ σ1) (.ok v σ1)
noncomputable def evOr (c : Cx) : PEs → List PV → AH → Res PV
  | .nil, _, _ => .bad
  | .cons e .nil, ρ, σ => ev c e 0 ρ σ
  | .cons e es, ρ, σ => (ev c e 0 ρ σ).bind fun v σ1 => pickB (truth σ1 v) (.ok v σ1) (evOr c es ρ σ1)
end

noncomputable def setAt (σ : AH) (a i v : PV) : Option AH :=
  both refOf strOf a i (fun r k => (openD σ r).bind fun l => if small l.length then some (σ.set r (.dict false (dput l k v))) else none) none

noncomputable abbrev FE := Flw × List PV

noncomputable def forL (body : List PV → AH → Res FE) (t : Tgt) (ks : List Nat) : List PV → List PV → AH → Res FE
  | [], ρ, σ => .ok (.next, kill ks ρ) σ
  | x :: xs, ρ, σ => match bindT t x (kill ks ρ) with
    | none => .bad
    | some ρ1 => (body ρ1 σ).bind fun r σ1 => match r.1 with
      | .next => forL body t ks xs r.2 σ1
      | .cont => forL body t ks xs r.2 σ1
      | .brk => .ok (.next, kill ks r.2) σ1
      | .ret v => .ok (.ret v, r.2) σ1

noncomputable def whileN (test : List PV → AH → Res PV) (body : List PV → AH → Res FE) (ks : List Nat) : Nat → List PV → AH → Res FE
  | 0, _, _ => .bad
  | n + 1, ρ, σ => (test (kill ks ρ) σ).bind fun b σ1 => match truth σ1 b with
    | some true => (body (kill ks ρ) σ1).bind fun r σ2 => match r.1 with
      | .next => whileN test body ks n r.2 σ2
      | .cont => whileN test body ks n r.2 σ2
      | .brk => .ok (.next, kill ks r.2) σ2
      | .ret v => .ok (.ret v, r.2) σ2
    | some false => .ok (.next, kill ks ρ) σ1
    | none => .bad

open Classical in
noncomputable def whileW (test : List PV → AH → Res PV) (body : List PV → AH → Res FE) (ks : List Nat) (ρ : List PV) (σ : AH) : Res FE :=
  if h : ∃ n, whileN test body ks n ρ σ ≠ .bad then whileN test body ks h.choose ρ σ else .bad

theorem whileN_succ {test : List PV → AH → Res PV} {body : List PV → AH → Res FE} {ks : List Nat} : ∀ (n : Nat) (ρ : List PV) (σ : AH), whileN test body ks n ρ σ ≠ .bad → whileN test body ks (n + 1) ρ σ = whileN test body ks n ρ σ
  | 0, _, _, h => absurd rfl h
  | n + 1, ρ, σ, h => by
    rw [whileN] at h
    rw [whileN.eq_2 (n := n + 1), whileN.eq_2 (n := n)]
    cases ht : test (kill ks ρ) σ with
    | bad => rfl
    | exc e σ => rfl
    | ok b σ1 =>
      rw [ht] at h
      simp only [Res.bind] at h ⊢
      cases hb : truth σ1 b with
      | none => rfl
      | some q =>
        rw [hb] at h
        cases q with
        | false => rfl
        | true =>
          simp only at h ⊢
          cases hr : body (kill ks ρ) σ1 with
          | bad => rfl
          | exc e σ => rfl
          | ok r σ2 =>
            rw [hr] at h
            simp only [Res.bind] at h ⊢
            obtain ⟨f, ρ1⟩ := r
            cases f with
            | next => exact whileN_succ n _ _ h
            | cont => exact whileN_succ n _ _ h
            | brk => rfl
            | ret v => rfl
theorem whileN_mono {test : List PV → AH → Res PV} {body : List PV → AH → Res FE} {ks : List Nat} {n m : Nat} {ρ : List PV} {σ : AH} (hle : n ≤ m) (h : whileN test body ks n ρ σ ≠ .bad) :
    whileN test body ks m ρ σ = whileN test body ks n ρ σ := by
  induction hle with
  | refl => rfl
  | step _ ih => rw [whileN_succ _ _ _ (ih ▸ h), ih]
theorem whileW_of {test : List PV → AH → Res PV} {body : List PV → AH → Res FE} {ks : List Nat} {n : Nat} {ρ : List PV} {σ : AH} {r : Res FE} (h : whileN test body ks n ρ σ = r) (hb : r ≠ .bad) :
    whileW test body ks ρ σ = r := by
  have hn : whileN test body ks n ρ σ ≠ .bad := h ▸ hb
  have hex : ∃ n, whileN test body ks n ρ σ ≠ .bad := ⟨n, hn⟩
  unfold whileW
  rw [dif_pos hex, ← h]
  rcases Nat.le_total hex.choose n with hle | hle
  · exact (whileN_mono hle hex.choose_spec).symm
  · exact whileN_mono hle hn
theorem whileW_spec {test : List PV → AH → Res PV} {body : List PV → AH → Res FE} {ks : List Nat} {ρ : List PV} {σ : AH} (hb : whileW test body ks ρ σ ≠ .bad) : ∃ n, whileN test body ks n ρ σ = whileW test body ks ρ σ := by
  unfold whileW at hb ⊢
  split
  · exact ⟨_, rfl⟩
  · rename_i h; rw [dif_neg h] at hb; exact absurd rfl hb

noncomputable def setattrP (c : Cx) (σ : AH) (o : PV) (x : Str) (v : PV) : Option AH := (instOf σ o).bind fun p => if c.atr x && small p.2.2.length then some (σ.set p.2.1 (.ns (dput p.2.2 x v))) else none
mutual
noncomputable def exec (c : Cx) : PS → List PV → AH → Res FE
  | .assign i m e, ρ, σ => (ev c e m ρ σ).bind fun v σ1 => .ok (.next, ρ.set i v) σ1
  | .setitem o i m v, ρ, σ => (ev c v m ρ σ).bind fun x σ1 => (ev c o 0 ρ σ1).bind fun a σ2 => (ev c i 0 ρ σ2).bind fun k σ3 => match setAt σ3 a k x with
    | some σ4 => .ok (.next, ρ) σ4
    | none => .bad
  | .assignT is e, ρ, σ => (ev c e 0 ρ σ).bind fun v σ1 => match bindT (.many is) v ρ with
    | some ρ1 => .ok (.next, ρ1) σ1
    | none => .bad
  | .setattr o x m v, ρ, σ => (ev c v m ρ σ).bind fun y σ1 => (ev c o 0 ρ σ1).bind fun a σ2 => match setattrP c σ2 a x y with
    | some σ3 => .ok (.next, ρ) σ3
    | none => .bad
  | .whileS t body ks, ρ, σ => whileW (ev c t 0) (execs c body) ks ρ σ
  | .expr e, ρ, σ => (ev c e 0 ρ σ).bind fun _ σ1 => .ok (.next, ρ) σ1
  | .ret m e, ρ, σ => (ev c e m ρ σ).bind fun v σ1 => .ok (.ret v, ρ) σ1
  | .ite t b o, ρ, σ => (ev c t 0 ρ σ).bind fun x σ1 => match truth σ1 x with
    | some true => execs c b ρ σ1
    | some false => execs c o ρ σ1
    | none => .bad
  | .forS t it body ks, ρ, σ => (ev c it 0 ρ σ).bind fun v σ1 => match items σ1 v with
    | some l => unlock v (lkV σ1 v) (forL (execs c body) t ks l ρ (lockV σ1 v true))
    | none => .bad
noncomputable def execs (c : Cx) : PSs → List PV → AH → Res FE
  | .nil, ρ, σ => .ok (.next, ρ) σ
  | .cons s ss, ρ, σ => (exec c s ρ σ).bind fun r σ1 => match r.1 with
    | .next => execs c ss r.2 σ1
    | f => .ok (f, r.2) σ1
end

noncomputable def Flw.out : Flw → PV
  | .ret v => v
  | _ => .none

open Classical in
noncomputable def runFn (c : Cx) (f : Fn) (args : List PV) (σ : AH) : Res PV :=
  if args.length = f.nargs then
    (execs c f.body (args ++ List.replicate (f.slots - f.nargs) .undef) σ).bind fun r σ' =>
      if f.keep then .ok r.1.out σ'
      else if σ'.take σ.length = σ then match frz σ.length σ' 3 r.1.out with
        | some v => .ok v σ
        | none => .bad
      else .bad
  else .bad

noncomputable def callD (G : Glob) : Nat → Str → List PV → AH → Res PV
  | 0, _, _, _ => .bad
  | d + 1, f, args, σ => match G.fn f with
    | some F => runFn ⟨G.const, callD G d, G.atr⟩ F args σ
    | none => .bad

end Mine

set_option autoImplicit false
set_option backward.match.sparseCases true
namespace Mine
open PySem

/-! ### rules by which the evaluator is run -/
theorem bind_ok {α β : Type} (a : α) (σ : AH) (f : α → AH → Res β) : (Res.ok a σ).bind f = f a σ := rfl
theorem fin_v (m : Nat) (v : PV) (σ : AH) : fin m (some (.v v)) σ = .ok v σ := rfl
theorem fin_f0 (f : Frs) (σ : AH) : fin 0 (some (.f f)) σ = .ok f.val σ := rfl
theorem fin_f1 (f : Frs) (σ : AH) : fin 1 (some (.f f)) σ = .ok (.ref σ.length) (σ ++ [f.obj]) := rfl
theorem okB_some (b : Bool) (σ : AH) : okB (some b) σ = .ok (.bool b) σ := rfl
theorem truth_bool (σ : AH) (b : Bool) : truth σ (.bool b) = some b := rfl
theorem constP_int (i : Int) : constP (.int i) = some (.int i) := rfl
theorem constP_str (x : Str) : constP (.str x) = some (.str x) := rfl
theorem constP_bool (b : Bool) : constP (.bool b) = some (.bool b) := rfl
theorem constP_none : constP .none = some .none := rfl
theorem add_ii (σ : AH) (x y : Int) : binop σ .Add (.int x) (.int y) = some (.v (.int (x + y))) := rfl
theorem sub_ii (σ : AH) (x y : Int) : binop σ .Sub (.int x) (.int y) = some (.v (.int (x - y))) := rfl
theorem mod_ii (σ : AH) (x y : Int) (h : y ≠ 0) : binop σ .Mod (.int x) (.int y) = some (.v (.int (x.fmod y))) := if_neg h
theorem div_ii (σ : AH) (x y : Int) (h : y ≠ 0) : binop σ .FloorDiv (.int x) (.int y) = some (.v (.int (x.fdiv y))) := if_neg h
theorem mul_ii (σ : AH) (x y : Int) (h : IntMulOk x y) : binop σ .Mult (.int x) (.int y) = some (.v (.int (x * y))) := if_pos h
theorem pow_ii (σ : AH) (x n : Int) (h : 0 ≤ n ∧ n ≤ 1000000 ∧ x.natAbs < 2 ^ 64) : binop σ .Pow (.int x) (.int n) = some (.v (.int (x ^ n.toNat))) := if_pos h
theorem add_ss (σ : AH) (x y : Str) (h : x.length + y.length ≤ 1000000) : binop σ .Add (.str x) (.str y) = some (.v (.str (x ++ y))) := if_pos h
theorem mul_si (σ : AH) (x : Str) (n : Int) (h : n ≤ 1000 ∧ -1000 ≤ n ∧ x.length ≤ 1000) : binop σ .Mult (.str x) (.int n) = some (.v (.str (repStr x n))) := if_pos h
theorem lt_ii (σ : AH) (x y : Int) : cmpP σ .Lt (.int x) (.int y) = some (decide (x < y)) := rfl
theorem gt_ii (σ : AH) (x y : Int) : cmpP σ .Gt (.int x) (.int y) = some (decide (x > y)) := rfl
theorem le_ii (σ : AH) (x y : Int) : cmpP σ .LtE (.int x) (.int y) = some (decide (x ≤ y)) := rfl
theorem le_ss (σ : AH) (x y : Str) : cmpP σ .LtE (.str x) (.str y) = some (!strLt y x) := rfl
theorem plain_int (i : Int) : plain (.int i) = true := rfl
theorem plain_str (i : Str) : plain (.str i) = true := rfl
theorem eq_ii (σ : AH) (x y : Int) : cmpP σ .Eq (.int x) (.int y) = some (x == y) := rfl
theorem ne_ii (σ : AH) (x y : Int) : cmpP σ .NotEq (.int x) (.int y) = some (!(x == y)) := rfl
theorem eq_ss (σ : AH) (x y : Str) : cmpP σ .Eq (.str x) (.str y) = some (x == y) := rfl
theorem len_lst (σ : AH) (l : List PV) (h : l.length ≤ 1000000) : biP σ .len [.lst l] = some (.v (.int l.length)) := if_pos (decide_eq_true h)
theorem len_tup (σ : AH) (l : List PV) (h : l.length ≤ 1000000) : biP σ .len [.tup l] = some (.v (.int l.length)) := if_pos (decide_eq_true h)
theorem pick_nat {l : List PV} {k : Nat} {v : PV} (hk : k ≤ 1000000) (h : l[k]? = some v) : pickAt l k = some (.v v) :=
  (if_pos ⟨Int.natCast_nonneg k, ar5 hk⟩).trans (show (l[k]?).map Out.v = _ by rw [h]; rfl)
theorem idx_lst (σ : AH) (l : List PV) (k : Nat) (v : PV) (hk : k ≤ 1000000) (h : l[k]? = some v) : getAt σ (.lst l) (.int k) = some (.v v) := pick_nat hk h
theorem idx_tup (σ : AH) (l : List PV) (k : Nat) (v : PV) (hk : k ≤ 1000000) (h : l[k]? = some v) : getAt σ (.tup l) (.int k) = some (.v v) := pick_nat hk h

theorem bits_le {x : Int} {n : Nat} (hx : x.natAbs < 2 ^ n) : Builtin.Int.intBits x ≤ n := by
  unfold Builtin.Int.intBits
  split
  · exact Nat.zero_le _
  · rename_i h0
    have h1 : x.natAbs ≠ 0 := fun q => h0 (by simpa using q)
    have := (Nat.log2_lt h1).mpr hx
    exact ar4 this
theorem mulOk {x y : Int} (hx : x.natAbs < 2 ^ 100000) (hy : y.natAbs < 2 ^ 100000) : IntMulOk x y := by
  have h1 := bits_le hx
  have h2 := bits_le hy
  unfold IntMulOk
  intro h
  have h3 := (Bool.and_eq_true_iff.mp h).2
  have h4 : (200000 : Int) ≤ (bitsLine : Int) := by decide
  simp only [Builtin.Int.intTooBig, decide_eq_true_eq] at h3
  exact (ar3 h1 h2 h4 h3).elim
theorem lt_pow {a b n m : Nat} (h : a < b ^ n) (hm : n ≤ m) (hb : 0 < b) : a < b ^ m := Nat.lt_of_lt_of_le h (Nat.pow_le_pow_right hb hm)
theorem mulOk_w {x y : Int} (hx : x.natAbs < 2 ^ 1000) (hy : y.natAbs < 2 ^ 1000) : IntMulOk x y := mulOk (lt_pow hx (by decide) (by decide)) (lt_pow hy (by decide) (by decide))
theorem mulOk_l {x y : Int} (h1 : -(2 ^ 64) < x) (h2 : x < 2 ^ 64) : IntMulOk x y := .of_left (intBits_le_64 h1 h2)
theorem mulOk_r {x y : Int} (h1 : -(2 ^ 64) < y) (h2 : y < 2 ^ 64) : IntMulOk x y := .of_right (intBits_le_64 h1 h2)
end Mine

set_option autoImplicit false
set_option backward.match.sparseCases false
namespace Mine
open PySem
/-! the evaluator's equations, fully applied -/
section
variable (c : Cx) (m : Nat) (ρ : List PV) (σ : AH)
noncomputable def kBin2 (m : Nat) (op : Operator) (x y : PV) (σ : AH) : Res PV := fin m (binop σ op x y) σ
noncomputable def kBin1 (c : Cx) (b : PE) (m : Nat) (op : Operator) (ρ : List PV) (x : PV) (σ : AH) : Res PV := (ev c b 0 ρ σ).bind (kBin2 m op x)
noncomputable def kNot (x : PV) (σ : AH) : Res PV := okB ((truth σ x).map (!·)) σ
noncomputable def kNeg (x : PV) (σ : AH) : Res PV := match x with | .int i => .ok (.int (-i)) σ | _ => .bad
noncomputable def kCmp2 (op : CmpOp) (x y : PV) (σ : AH) : Res PV := okB (cmpP σ op x y) σ
noncomputable def kCmp1 (c : Cx) (b : PE) (op : CmpOp) (ρ : List PV) (x : PV) (σ : AH) : Res PV := (ev c b 0 ρ σ).bind (kCmp2 op x)
noncomputable def kTup (vs : List PV) (σ : AH) : Res PV := .ok (.tup vs) σ
noncomputable def kLst (m : Nat) (vs : List PV) (σ : AH) : Res PV := box m (.list vs) σ
noncomputable def kIdx2 (x k : PV) (σ : AH) : Res PV := fin 0 (getAt σ x k) σ
noncomputable def kIdx1 (c : Cx) (i : PE) (ρ : List PV) (x : PV) (σ : AH) : Res PV := (ev c i 0 ρ σ).bind (kIdx2 x)
noncomputable def kComp2 (m : Nat) (vs : List PV) (σ : AH) : Res PV := if small vs.length then box m (.list vs) σ else .bad
noncomputable def kCompI (c : Cx) (elt : PE) (t : Tgt) (cond : PE) (m : Nat) (ρ : List PV) (v : PV) (σ1 : AH) : Option (List PV) → Res PV
  | none => .bad
  | some l => (unlock v (lkV σ1 v) (compL (ev c cond 0) (ev c elt m.pred) t (kill (tgtSlots t) ρ) l (lockV σ1 v true))).bind (kComp2 m)
noncomputable def kComp1 (c : Cx) (elt : PE) (t : Tgt) (cond : PE) (m : Nat) (ρ : List PV) (v : PV) (σ1 : AH) : Res PV := kCompI c elt t cond m ρ v σ1 (items σ1 v)
noncomputable def kCall (c : Cx) (f : Str) (vs : List PV) (σ : AH) : Res PV := c.cal f vs σ
noncomputable def kBi (b : BI) (m : Nat) (vs : List PV) (σ : AH) : Res PV := fin m (biP σ b vs) σ
noncomputable def kMeth3 : Option (PV × AH) → Res PV
  | some (v, σ) => .ok v σ
  | none => .bad
noncomputable def kMeth2 (mt : BM) (x : PV) (vs : List PV) (σ : AH) : Res PV := kMeth3 (bmP σ mt x vs)
noncomputable def kMethI (c : Cx) (mt : BM) (args : PEs) (ρ : List PV) (x : PV) (σ : AH) : Option Bool → Res PV
  | some true => (evs c args 0 ρ σ).bind (kMeth2 mt x)
  | _ => .bad
noncomputable def kMeth1 (c : Cx) (mt : BM) (args : PEs) (ρ : List PV) (x : PV) (σ : AH) : Res PV := kMethI c mt args ρ x σ (isTy σ mt.ty x)
noncomputable def kCons2 (v : PV) (vs : List PV) (σ : AH) : Res (List PV) := .ok (v :: vs) σ
noncomputable def kCons1 (c : Cx) (es : PEs) (m : Nat) (ρ : List PV) (v : PV) (σ : AH) : Res (List PV) := (evs c es m ρ σ).bind (kCons2 v)
noncomputable def kAndI (c : Cx) (es : PEs) (ρ : List PV) (v : PV) (σ : AH) (o : Option Bool) : Res PV := pickB o (evAnd c es ρ σ) (.ok v σ)
noncomputable def kAnd (c : Cx) (es : PEs) (ρ : List PV) (v : PV) (σ : AH) : Res PV := kAndI c es ρ v σ (truth σ v)
noncomputable def kOrI (c : Cx) (es : PEs) (ρ : List PV) (v : PV) (σ : AH) (o : Option Bool) : Res PV := pickB o (.ok v σ) (evOr c es ρ σ)
noncomputable def kOr (c : Cx) (es : PEs) (ρ : List PV) (v : PV) (σ : AH) : Res PV := kOrI c es ρ v σ (truth σ v)
noncomputable def kAssign (ρ : List PV) (i : Nat) (v : PV) (σ : AH) : Res FE := .ok (.next, ρ.set i v) σ
noncomputable def kSet4 (ρ : List PV) : Option AH → Res FE
  | some σ => .ok (.next, ρ) σ
  | none => .bad
noncomputable def kSlF2 (m : Nat) (x k : PV) (σ : AH) : Res PV := fin m (cutF σ x k) σ
noncomputable def kSlF1 (c : Cx) (lo : PE) (m : Nat) (ρ : List PV) (x : PV) (σ : AH) : Res PV := (ev c lo 0 ρ σ).bind (kSlF2 m x)
noncomputable def kSl3 (m : Nat) (x k j : PV) (σ : AH) : Res PV := fin m (cutP σ x k j) σ
noncomputable def kSl2 (c : Cx) (hi : PE) (m : Nat) (ρ : List PV) (x k : PV) (σ : AH) : Res PV := (ev c hi 0 ρ σ).bind (kSl3 m x k)
noncomputable def kSl1 (c : Cx) (lo hi : PE) (m : Nat) (ρ : List PV) (x : PV) (σ : AH) : Res PV := (ev c lo 0 ρ σ).bind (kSl2 c hi m ρ x)
noncomputable def kAttr (c : Cx) (x : Str) (v : PV) (σ : AH) : Res PV := okV (attrP c σ v x) σ
noncomputable def kUm3 (c : Cx) (f : Str) (v : PV) (vs : List PV) (σ : AH) : Res PV := c.cal f (v :: vs) σ
noncomputable def kUm2 (c : Cx) (args : PEs) (ρ : List PV) (v : PV) (σ : AH) (f : Str) : Res PV := (evs c args 0 ρ σ).bind (kUm3 c f v)
noncomputable def kUm1 (c : Cx) (x : Str) (args : PEs) (ρ : List PV) (v : PV) (σ : AH) : Res PV := okN (methP σ v x) (kUm2 c args ρ v σ)
noncomputable def kNew (c : Cx) (k : Str) (vs : List PV) (σ : AH) : Res PV := (c.cal (methK k "__init__") (.ref (σ.length + 1) :: vs) (σ ++ [.ns []] ++ [.inst k σ.length])).bind (madeV (σ.length + 1))
noncomputable def kAsT2 (σ : AH) : Option (List PV) → Res FE
  | some ρ1 => .ok (.next, ρ1) σ
  | none => .bad
noncomputable def kAsT (ρ : List PV) (is : List Nat) (v : PV) (σ : AH) : Res FE := kAsT2 σ (bindT (.many is) v ρ)
noncomputable def kSa2 (c : Cx) (ρ : List PV) (x : Str) (y a : PV) (σ : AH) : Res FE := kSet4 ρ (setattrP c σ a x y)
noncomputable def kSa1 (c : Cx) (o : PE) (ρ : List PV) (x : Str) (y : PV) (σ : AH) : Res FE := (ev c o 0 ρ σ).bind (kSa2 c ρ x y)
noncomputable def kSet3 (ρ : List PV) (x a k : PV) (σ : AH) : Res FE := kSet4 ρ (setAt σ a k x)
noncomputable def kSet2 (c : Cx) (i : PE) (ρ : List PV) (x a : PV) (σ : AH) : Res FE := (ev c i 0 ρ σ).bind (kSet3 ρ x a)
noncomputable def kSet1 (c : Cx) (o i : PE) (ρ : List PV) (x : PV) (σ : AH) : Res FE := (ev c o 0 ρ σ).bind (kSet2 c i ρ x)
noncomputable def kExpr (ρ : List PV) (_v : PV) (σ : AH) : Res FE := .ok (.next, ρ) σ
noncomputable def kRet (ρ : List PV) (v : PV) (σ : AH) : Res FE := .ok (.ret v, ρ) σ
noncomputable def kIfI (c : Cx) (b o : PSs) (ρ : List PV) (σ : AH) : Option Bool → Res FE
  | some true => execs c b ρ σ
  | some false => execs c o ρ σ
  | none => .bad
noncomputable def kIf (c : Cx) (b o : PSs) (ρ : List PV) (x : PV) (σ : AH) : Res FE := kIfI c b o ρ σ (truth σ x)
noncomputable def kForI (c : Cx) (t : Tgt) (body : PSs) (ks : List Nat) (ρ : List PV) (v : PV) (σ : AH) : Option (List PV) → Res FE
  | some l => unlock v (lkV σ v) (forL (execs c body) t ks l ρ (lockV σ v true))
  | none => .bad
noncomputable def kFor (c : Cx) (t : Tgt) (body : PSs) (ks : List Nat) (ρ : List PV) (v : PV) (σ : AH) : Res FE := kForI c t body ks ρ v σ (items σ v)
noncomputable def kSeqI (c : Cx) (ss : PSs) (ρ : List PV) (σ : AH) : Flw → Res FE
  | .next => execs c ss ρ σ
  | f => .ok (f, ρ) σ
noncomputable def kSeq (c : Cx) (ss : PSs) (r : FE) (σ : AH) : Res FE := kSeqI c ss r.2 σ r.1
theorem e_const (k : Const) : ev c (.const k) m ρ σ = match constP k with | some v => .ok v σ | none => .bad := rfl
theorem e_loc (i : Nat) : ev c (.loc i) m ρ σ = match ρ[i]? with | some .undef => .bad | some v => .ok v σ | none => .bad := rfl
theorem e_and (es : PEs) : ev c (.andE es) m ρ σ = evAnd c es ρ σ := rfl
theorem e_or (es : PEs) : ev c (.orE es) m ρ σ = evOr c es ρ σ := rfl
theorem e_bin (op : Operator) (a b : PE) : ev c (.bin op a b) m ρ σ = (ev c a 0 ρ σ).bind (kBin1 c b m op ρ) := rfl
theorem k_bin1 (b : PE) (op : Operator) (x : PV) : kBin1 c b m op ρ x σ = (ev c b 0 ρ σ).bind (kBin2 m op x) := rfl
theorem k_bin2 (op : Operator) (x y : PV) : kBin2 m op x y σ = fin m (binop σ op x y) σ := rfl
theorem e_not (a : PE) : ev c (.notE a) m ρ σ = (ev c a 0 ρ σ).bind kNot := rfl
theorem k_not (x : PV) : kNot x σ = okB ((truth σ x).map (!·)) σ := rfl
theorem e_neg (a : PE) : ev c (.neg a) m ρ σ = (ev c a 0 ρ σ).bind kNeg := rfl
theorem k_neg (i : Int) : kNeg (.int i) σ = .ok (.int (-i)) σ := rfl
theorem e_cmp (op : CmpOp) (a b : PE) : ev c (.cmp op a b) m ρ σ = (ev c a 0 ρ σ).bind (kCmp1 c b op ρ) := rfl
theorem k_cmp1 (b : PE) (op : CmpOp) (x : PV) : kCmp1 c b op ρ x σ = (ev c b 0 ρ σ).bind (kCmp2 op x) := rfl
theorem k_cmp2 (op : CmpOp) (x y : PV) : kCmp2 op x y σ = okB (cmpP σ op x y) σ := rfl
theorem e_tup (es : PEs) : ev c (.tup es) m ρ σ = (evs c es 0 ρ σ).bind kTup := rfl
theorem k_tup (vs : List PV) : kTup vs σ = .ok (.tup vs) σ := rfl
theorem e_lst (es : PEs) : ev c (.lst es) m ρ σ = (evs c es m.pred ρ σ).bind (kLst m) := rfl
theorem k_lst (vs : List PV) : kLst m vs σ = box m (.list vs) σ := rfl
theorem e_edict : ev c .edict m ρ σ = box m (.dict []) σ := rfl
theorem e_idx (a i : PE) : ev c (.idx a i) m ρ σ = (ev c a 0 ρ σ).bind (kIdx1 c i ρ) := rfl
theorem k_idx1 (i : PE) (x : PV) : kIdx1 c i ρ x σ = (ev c i 0 ρ σ).bind (kIdx2 x) := rfl
theorem k_idx2 (x k : PV) : kIdx2 x k σ = fin 0 (getAt σ x k) σ := rfl
theorem e_comp (elt : PE) (t : Tgt) (it cond : PE) : ev c (.comp elt t it cond) m ρ σ = (ev c it 0 ρ σ).bind (kComp1 c elt t cond m ρ) := by
  with_unfolding_all rfl
theorem k_comp1 (elt : PE) (t : Tgt) (cond : PE) (v : PV) : kComp1 c elt t cond m ρ v σ = kCompI c elt t cond m ρ v σ (items σ v) := rfl
theorem k_compI (elt : PE) (t : Tgt) (cond : PE) (v : PV) (l : List PV) : kCompI c elt t cond m ρ v σ (some l) = (unlock v (lkV σ v) (compL (ev c cond 0) (ev c elt m.pred) t (kill (tgtSlots t) ρ) l (lockV σ v true))).bind (kComp2 m) := rfl
theorem k_comp2 (vs : List PV) : kComp2 m vs σ = if small vs.length then box m (.list vs) σ else .bad := rfl
theorem e_call (f : Str) (args : PEs) : ev c (.call f args) m ρ σ = (evs c args 0 ρ σ).bind (kCall c f) := rfl
theorem k_call (gl : Str → Option PV) (cal : Str → List PV → AH → Res PV) (atr : Str → Bool) (f : Str) (vs : List PV) : kCall ⟨gl, cal, atr⟩ f vs σ = cal f vs σ := rfl
theorem e_bi (b : BI) (args : PEs) : ev c (.bi b args) m ρ σ = (evs c args 0 ρ σ).bind (kBi b m) := rfl
theorem k_bi (b : BI) (vs : List PV) : kBi b m vs σ = fin m (biP σ b vs) σ := rfl
theorem e_meth (o : PE) (mt : BM) (args : PEs) : ev c (.meth o mt args) m ρ σ = (ev c o 0 ρ σ).bind (kMeth1 c mt args ρ) := by
  show (ev c o 0 ρ σ).bind _ = _
  congr 1
  funext x σ1
  show _ = kMethI c mt args ρ x σ1 (isTy σ1 mt.ty x)
  rcases isTy σ1 mt.ty x with _ | (_ | _)
  · rfl
  · rfl
  · with_unfolding_all rfl
theorem k_meth1 (mt : BM) (args : PEs) (x : PV) : kMeth1 c mt args ρ x σ = kMethI c mt args ρ x σ (isTy σ mt.ty x) := rfl
theorem k_methI (mt : BM) (args : PEs) (x : PV) : kMethI c mt args ρ x σ (some true) = (evs c args 0 ρ σ).bind (kMeth2 mt x) := rfl
theorem k_meth2 (mt : BM) (x : PV) (vs : List PV) : kMeth2 mt x vs σ = kMeth3 (bmP σ mt x vs) := rfl
theorem k_meth3 (v : PV) : kMeth3 (some (v, σ)) = .ok v σ := rfl
theorem e_nil : evs c .nil m ρ σ = .ok [] σ := rfl
theorem e_cons (e : PE) (es : PEs) : evs c (.cons e es) m ρ σ = (ev c e m ρ σ).bind (kCons1 c es m ρ) := rfl
theorem k_cons1 (es : PEs) (v : PV) : kCons1 c es m ρ v σ = (evs c es m ρ σ).bind (kCons2 v) := rfl
theorem k_cons2 (v : PV) (vs : List PV) : kCons2 v vs σ = .ok (v :: vs) σ := rfl
theorem e_and1 (e : PE) : evAnd c (.cons e .nil) ρ σ = ev c e 0 ρ σ := rfl
theorem e_and2 (e e' : PE) (es : PEs) : evAnd c (.cons e (.cons e' es)) ρ σ = (ev c e 0 ρ σ).bind (kAnd c (.cons e' es) ρ) := rfl
theorem k_and (es : PEs) (v : PV) : kAnd c es ρ v σ = kAndI c es ρ v σ (truth σ v) := rfl
theorem k_and_t (es : PEs) (v : PV) : kAndI c es ρ v σ (some true) = evAnd c es ρ σ := rfl
theorem k_and_f (es : PEs) (v : PV) : kAndI c es ρ v σ (some false) = .ok v σ := rfl
theorem e_or1 (e : PE) : evOr c (.cons e .nil) ρ σ = ev c e 0 ρ σ := rfl
theorem e_or2 (e e' : PE) (es : PEs) : evOr c (.cons e (.cons e' es)) ρ σ = (ev c e 0 ρ σ).bind (kOr c (.cons e' es) ρ) := rfl
theorem k_or (es : PEs) (v : PV) : kOr c es ρ v σ = kOrI c es ρ v σ (truth σ v) := rfl
theorem k_or_t (es : PEs) (v : PV) : kOrI c es ρ v σ (some true) = .ok v σ := rfl
theorem k_or_f (es : PEs) (v : PV) : kOrI c es ρ v σ (some false) = evOr c es ρ σ := rfl
theorem e_sliceF (a lo : PE) : ev c (.sliceF a lo) m ρ σ = (ev c a 0 ρ σ).bind (kSlF1 c lo m ρ) := rfl
theorem k_slF1 (lo : PE) (x : PV) : kSlF1 c lo m ρ x σ = (ev c lo 0 ρ σ).bind (kSlF2 m x) := rfl
theorem k_slF2 (x k : PV) : kSlF2 m x k σ = fin m (cutF σ x k) σ := rfl
theorem e_sliceFT (a lo hi : PE) : ev c (.sliceFT a lo hi) m ρ σ = (ev c a 0 ρ σ).bind (kSl1 c lo hi m ρ) := rfl
theorem k_sl1 (lo hi : PE) (x : PV) : kSl1 c lo hi m ρ x σ = (ev c lo 0 ρ σ).bind (kSl2 c hi m ρ x) := rfl
theorem k_sl2 (hi : PE) (x k : PV) : kSl2 c hi m ρ x k σ = (ev c hi 0 ρ σ).bind (kSl3 m x k) := rfl
theorem k_sl3 (x k j : PV) : kSl3 m x k j σ = fin m (cutP σ x k j) σ := rfl
theorem e_glob (x : Str) : ev c (.glob x) m ρ σ = okV (c.gl x) σ := rfl
theorem okV_some (v : PV) : okV (some v) σ = .ok v σ := rfl
theorem e_attr (a : PE) (x : Str) : ev c (.attr a x) m ρ σ = (ev c a 0 ρ σ).bind (kAttr c x) := rfl
theorem k_attr (x : Str) (v : PV) : kAttr c x v σ = okV (attrP c σ v x) σ := rfl
theorem e_umeth (o : PE) (x : Str) (args : PEs) : ev c (.umeth o x args) m ρ σ = (ev c o 0 ρ σ).bind (kUm1 c x args ρ) := rfl
theorem k_um1 (x : Str) (args : PEs) (v : PV) : kUm1 c x args ρ v σ = okN (methP σ v x) (kUm2 c args ρ v σ) := rfl
theorem okN_some (k : Str) (f : Str → Res PV) : okN (some k) f = f k := rfl
theorem k_um2 (args : PEs) (v : PV) (f : Str) : kUm2 c args ρ v σ f = (evs c args 0 ρ σ).bind (kUm3 c f v) := rfl
theorem k_um3 (f : Str) (v : PV) (vs : List PV) : kUm3 c f v vs σ = c.cal f (v :: vs) σ := rfl
theorem e_new (k : Str) (args : PEs) : ev c (.new k args) m ρ σ = (evs c args 0 ρ σ).bind (kNew c k) := rfl
theorem k_new (k : Str) (vs : List PV) : kNew c k vs σ = (c.cal (methK k "__init__") (.ref (σ.length + 1) :: vs) (σ ++ [.ns []] ++ [.inst k σ.length])).bind (madeV (σ.length + 1)) := rfl
theorem madeV_none (n : Nat) : madeV n .none σ = .ok (.ref n) σ := rfl
theorem x_assignT (is : List Nat) (e : PE) : exec c (.assignT is e) ρ σ = (ev c e 0 ρ σ).bind (kAsT ρ is) := by
  with_unfolding_all rfl
theorem k_asT (is : List Nat) (v : PV) : kAsT ρ is v σ = kAsT2 σ (bindT (.many is) v ρ) := rfl
theorem k_asT2 (ρ : List PV) : kAsT2 σ (some ρ) = .ok (.next, ρ) σ := rfl
theorem x_setattr (o : PE) (x : Str) (v : PE) : exec c (.setattr o x m v) ρ σ = (ev c v m ρ σ).bind (kSa1 c o ρ x) := by
  with_unfolding_all rfl
theorem k_sa1 (o : PE) (x : Str) (y : PV) : kSa1 c o ρ x y σ = (ev c o 0 ρ σ).bind (kSa2 c ρ x y) := rfl
theorem k_sa2 (x : Str) (y a : PV) : kSa2 c ρ x y a σ = kSet4 ρ (setattrP c σ a x y) := rfl
theorem x_while (t : PE) (body : PSs) (ks : List Nat) : exec c (.whileS t body ks) ρ σ = whileW (ev c t 0) (execs c body) ks ρ σ := rfl
theorem x_assign (i : Nat) (e : PE) : exec c (.assign i m e) ρ σ = (ev c e m ρ σ).bind (kAssign ρ i) := rfl
theorem k_assign (i : Nat) (v : PV) : kAssign ρ i v σ = .ok (.next, ρ.set i v) σ := rfl
theorem x_setitem (o i v : PE) : exec c (.setitem o i m v) ρ σ = (ev c v m ρ σ).bind (kSet1 c o i ρ) := by
  with_unfolding_all rfl
theorem k_set1 (o i : PE) (x : PV) : kSet1 c o i ρ x σ = (ev c o 0 ρ σ).bind (kSet2 c i ρ x) := rfl
theorem k_set2 (i : PE) (x a : PV) : kSet2 c i ρ x a σ = (ev c i 0 ρ σ).bind (kSet3 ρ x a) := rfl
theorem k_set3 (x a k : PV) : kSet3 ρ x a k σ = kSet4 ρ (setAt σ a k x) := rfl
theorem k_set4 : kSet4 ρ (some σ) = .ok (.next, ρ) σ := rfl
theorem x_expr (e : PE) : exec c (.expr e) ρ σ = (ev c e 0 ρ σ).bind (kExpr ρ) := rfl
theorem k_expr (v : PV) : kExpr ρ v σ = .ok (.next, ρ) σ := rfl
theorem x_ret (e : PE) : exec c (.ret m e) ρ σ = (ev c e m ρ σ).bind (kRet ρ) := rfl
theorem k_ret (v : PV) : kRet ρ v σ = .ok (.ret v, ρ) σ := rfl
theorem x_ite (t : PE) (b o : PSs) : exec c (.ite t b o) ρ σ = (ev c t 0 ρ σ).bind (kIf c b o ρ) := by
  with_unfolding_all rfl
theorem k_if (b o : PSs) (x : PV) : kIf c b o ρ x σ = kIfI c b o ρ σ (truth σ x) := rfl
theorem k_if_t (b o : PSs) : kIfI c b o ρ σ (some true) = execs c b ρ σ := rfl
theorem k_if_f (b o : PSs) : kIfI c b o ρ σ (some false) = execs c o ρ σ := rfl
theorem x_for (t : Tgt) (it : PE) (body : PSs) (ks : List Nat) : exec c (.forS t it body ks) ρ σ = (ev c it 0 ρ σ).bind (kFor c t body ks ρ) := by
  with_unfolding_all rfl
theorem k_for (t : Tgt) (body : PSs) (ks : List Nat) (v : PV) : kFor c t body ks ρ v σ = kForI c t body ks ρ v σ (items σ v) := rfl
theorem k_forI (t : Tgt) (body : PSs) (ks : List Nat) (v : PV) (l : List PV) : kForI c t body ks ρ v σ (some l) = unlock v (lkV σ v) (forL (execs c body) t ks l ρ (lockV σ v true)) := rfl
theorem x_nil : execs c .nil ρ σ = .ok (.next, ρ) σ := rfl
theorem x_cons (s : PS) (ss : PSs) : execs c (.cons s ss) ρ σ = (exec c s ρ σ).bind (kSeq c ss) := by
  with_unfolding_all rfl
theorem k_seq (ss : PSs) (f : Flw) (ρ : List PV) : kSeq c ss (f, ρ) σ = kSeqI c ss ρ σ f := rfl
theorem k_seq_n (ss : PSs) : kSeqI c ss ρ σ .next = execs c ss ρ σ := rfl
theorem k_seq_r (ss : PSs) (v : PV) : kSeqI c ss ρ σ (.ret v) = .ok (.ret v, ρ) σ := rfl
end
theorem callD_s {G : Glob} {F : Str} {Fn : Fn} (h : G.fn F = some Fn) (d : Nat) (args : List PV) (σ : AH) : callD G (d + 1) F args σ = runFn ⟨G.const, callD G d, G.atr⟩ Fn args σ := by rw [callD, h]
theorem items_tup (σ : AH) (l : List PV) : items σ (.tup l) = some l := rfl
theorem items_lst (σ : AH) (l : List PV) : items σ (.lst l) = some l := rfl
theorem items_rng (σ : AH) (a b : Int) : items σ (.rng a b) = some (rngInts a b) := rfl
theorem items_dct (σ : AH) (l : List (Str × PV)) : items σ (.dct l) = some (l.map fun kv => .str kv.1) := rfl
theorem lkV_tup (σ : AH) (l : List PV) : lkV σ (.tup l) = false := rfl
theorem lkV_lst (σ : AH) (l : List PV) : lkV σ (.lst l) = false := rfl
theorem lkV_rng (σ : AH) (a b : Int) : lkV σ (.rng a b) = false := rfl
theorem lkV_dct (σ : AH) (l : List (Str × PV)) : lkV σ (.dct l) = false := rfl
theorem lockV_tup (σ : AH) (l : List PV) (b : Bool) : lockV σ (.tup l) b = σ := rfl
theorem lockV_lst (σ : AH) (l : List PV) (b : Bool) : lockV σ (.lst l) b = σ := rfl
theorem lockV_rng (σ : AH) (x y : Int) (b : Bool) : lockV σ (.rng x y) b = σ := rfl
theorem lockV_dct (σ : AH) (l : List (Str × PV)) (b : Bool) : lockV σ (.dct l) b = σ := rfl
theorem unlk_ok {α : Type} (v : PV) (b : Bool) (a : α) (σ : AH) : unlock v b (.ok a σ) = .ok a (lockV σ v b) := rfl
theorem box_0 (f : Frs) (σ : AH) : box 0 f σ = .ok f.val σ := rfl
theorem box_1 (f : Frs) (σ : AH) : box 1 f σ = .ok (.ref σ.length) (σ ++ [f.obj]) := rfl
theorem val_list (l : List PV) : (Frs.list l).val = .lst l := rfl
theorem val_dict (l : List (Str × PV)) : (Frs.dict l).val = .dct l := rfl
theorem obj_list (l : List PV) : (Frs.list l).obj = .list false l := rfl
theorem obj_dict (l : List (Str × PV)) : (Frs.dict l).obj = .dict false l := rfl
end Mine

set_option autoImplicit false
set_option backward.match.sparseCases true
namespace Mine
open PySem

theorem strLt_irr (x : Str) : strLt x x = false := by simp [strLt]
theorem str_ext {x y : Str} (h : x.cps.toList = y.cps.toList) : x = y := by
  cases x; cases y; simp only [Str.mk.injEq]; exact Array.ext' h
theorem strLt_total {x y : Str} (h1 : strLt x y = false) (h2 : strLt y x = false) : x = y := by
  simp only [strLt, decide_eq_false_iff_not] at h1 h2
  exact str_ext (List.le_antisymm h2 h1)
theorem sortS_perm (l : List Str) : (sortS l).Perm l := List.mergeSort_perm ..
theorem strLe_trans {a b c : Str} (h1 : (!strLt b a) = true) (h2 : (!strLt c b) = true) : (!strLt c a) = true := by
  simp only [strLt, Bool.not_eq_true', decide_eq_false_iff_not] at *
  exact List.le_trans h1 h2
theorem strLe_total (a b : Str) : ((!strLt b a) || (!strLt a b)) = true := by
  simp only [strLt, Bool.or_eq_true, Bool.not_eq_true', decide_eq_false_iff_not]
  exact List.le_total a.cps.toList b.cps.toList
theorem sortS_sorted (l : List Str) : (sortS l).Pairwise fun a b => strLt b a = false := by
  have := List.pairwise_mergeSort (le := fun a b => !strLt b a) (fun a b c => strLe_trans) strLe_total l
  exact this.imp fun h => by simpa using h
theorem sortS_unique {l l' : List Str} (hp : l'.Perm l) (hs : l'.Pairwise fun a b => strLt b a = false) : l' = sortS l :=
  List.Perm.eq_of_pairwise (le := fun a b => strLt b a = false) (fun _ _ _ _ h1 h2 => strLt_total h2 h1) hs (sortS_sorted l) (hp.trans (sortS_perm l).symm)


theorem strLt_trans {a b c : Str} (h1 : strLt a b = true) (h2 : strLt b c = true) : strLt a c = true := by
  simp only [strLt, decide_eq_true_eq] at *
  exact List.lt_trans h1 h2
theorem strLt_of_le_ne {a b : Str} (h : strLt b a = false) (hn : a ≠ b) : strLt a b = true := by
  cases hq : strLt a b with
  | true => rfl
  | false => exact absurd (strLt_total hq h) hn
theorem strLt_asymm {a b : Str} (h : strLt a b = true) : strLt b a = false := by
  cases hq : strLt b a with
  | false => rfl
  | true => have := strLt_trans h hq; rw [strLt_irr] at this; exact nomatch this
end Mine

set_option autoImplicit false
set_option backward.match.sparseCases true
set_option linter.unusedSimpArgs false
set_option linter.unusedVariables false
namespace Mine
open PySem

/-! ### loops -/
theorem forL_step {body : List PV → AH → Res FE} {t : Tgt} {ks : List Nat} {x : PV} {xs ρ ρ1 ρ2 : List PV} {σ σ2 : AH} (h1 : bindT t x (kill ks ρ) = some ρ1) (h2 : body ρ1 σ = .ok (.next, ρ2) σ2) :
    forL body t ks (x :: xs) ρ σ = forL body t ks xs ρ2 σ2 := by
  conv => lhs; unfold forL
  rw [h1]
  show Res.bind (body ρ1 σ) _ = _
  rw [h2]
  rfl
theorem forL_inv {body : List PV → AH → Res FE} {t : Tgt} {ks : List Nat} (I : Nat → List PV → AH → Prop) (xs : List PV) : ∀ (k : Nat) (ρ : List PV) (σ : AH),
    (∀ j x ρ σ, xs[j]? = some x → I (k + j) (kill ks ρ) σ → ∃ ρ1 ρ2 σ2, bindT t x (kill ks ρ) = some ρ1 ∧ body ρ1 σ = .ok (.next, ρ2) σ2 ∧ I (k + j + 1) (kill ks ρ2) σ2) →
    I k (kill ks ρ) σ → ∃ ρ' σ', forL body t ks xs ρ σ = .ok (.next, kill ks ρ') σ' ∧ I (k + xs.length) (kill ks ρ') σ' := by
  induction xs with
  | nil => exact fun k ρ σ _ h => ⟨ρ, σ, rfl, h⟩
  | cons x xs ih =>
    intro k ρ σ hs h
    obtain ⟨ρ1, ρ2, σ2, h1, h2, h3⟩ := hs 0 x ρ σ rfl h
    obtain ⟨ρ', σ', h4, h5⟩ := ih (k + 1) ρ2 σ2 (fun j y ρ3 σ3 hy hI => by
      have := hs (j + 1) y ρ3 σ3 hy (show I (k + j + 1) _ _ from Nat.add_right_comm k 1 j ▸ hI)
      rw [← Nat.add_assoc, Nat.add_right_comm k j 1] at this
      exact this) h3
    refine ⟨ρ', σ', ?_, show I (k + xs.length + 1) _ _ from Nat.add_right_comm k 1 xs.length ▸ h5⟩
    rw [forL_step h1 h2]
    exact h4

theorem forL_const {body : List PV → AH → Res FE} {t : Tgt} {ks : List Nat} {ρ0 : List PV} (P : Nat → AH → Prop) (xs : List PV) {ρ : List PV} {σ : AH}
    (hs : ∀ k x σ, xs[k]? = some x → P k σ → ∃ ρ1 ρ2 σ2, bindT t x ρ0 = some ρ1 ∧ body ρ1 σ = .ok (.next, ρ2) σ2 ∧ kill ks ρ2 = ρ0 ∧ P (k + 1) σ2)
    (h0 : kill ks ρ = ρ0) (hP : P 0 σ) : ∃ σ', forL body t ks xs ρ σ = .ok (.next, ρ0) σ' ∧ P xs.length σ' := by
  obtain ⟨ρ', σ', h1, h2, h3⟩ := forL_inv (body := body) (t := t) (ks := ks) (fun k ρ σ => ρ = ρ0 ∧ P k σ) xs 0 ρ σ (fun j x ρ σ hx ⟨e, hp⟩ => by
    obtain ⟨ρ1, ρ2, σ2, a1, a2, a3, a4⟩ := hs j x σ hx (Nat.zero_add j ▸ hp)
    exact ⟨ρ1, ρ2, σ2, e.symm ▸ a1, a2, a3, (Nat.zero_add j).symm ▸ a4⟩) ⟨h0, hP⟩
  exact ⟨σ', h2 ▸ h1, Nat.zero_add xs.length ▸ h3⟩

/-! ### values without references -/
theorem frzW_pure (d : Nat → Option PV) (v : PV) : pureV v = true → frzW d v = some v :=
  PV.rec (motive_1 := fun v => pureV v = true → frzW d v = some v) (motive_2 := fun l => pureVs l = true → frzWs d l = some l) (motive_3 := fun _ => True) (motive_4 := fun _ => True)
    (fun h => nomatch h) (fun _ => rfl) (fun _ _ => rfl) (fun _ _ => rfl) (fun _ _ => rfl) (fun l ih h => congrArg (Option.map PV.tup) (ih h)) (fun l ih h => congrArg (Option.map PV.lst) (ih h)) (fun _ _ h => nomatch h) (fun _ _ h => nomatch h) (fun _ h => nomatch h)
    (fun _ => rfl) (fun v r iv ir h => (congrArg (fun o => Option.bind o fun x => (frzWs d r).map (x :: ·)) (iv (Bool.and_eq_true_iff.mp h).1)).trans (congrArg (Option.map (v :: ·)) (ir (Bool.and_eq_true_iff.mp h).2)))
    trivial (fun _ _ _ _ => trivial) (fun _ _ _ => trivial) v
theorem frzWs_pure (d : Nat → Option PV) (l : List PV) (h : pureVs l = true) : frzWs d l = some l := by
  induction l with
  | nil => rfl
  | cons v r ih =>
    have h := Bool.and_eq_true_iff.mp h
    show (frzW d v).bind _ = _
    rw [frzW_pure d v h.1]
    exact congrArg (Option.map (v :: ·)) (ih h.2)
theorem frz_pure {n k : Nat} {σ : AH} {v : PV} (h : pureV v = true) : frz n σ k v = some v := by
  cases k <;> exact frzW_pure _ v h
theorem pvEq_refl (v : PV) : pureV v = true → pvEq v v = true :=
  PV.rec (motive_1 := fun v => pureV v = true → pvEq v v = true) (motive_2 := fun l => pureVs l = true → pvEqs l l = true) (motive_3 := fun _ => True) (motive_4 := fun _ => True)
    (fun h => nomatch h) (fun _ => rfl) (fun b _ => beq_self_eq_true b) (fun i _ => beq_self_eq_true i) (fun x _ => beq_self_eq_true x) (fun l ih h => ih h) (fun l ih h => ih h) (fun _ _ h => nomatch h) (fun _ _ h => nomatch h) (fun _ h => nomatch h)
    (fun _ => rfl) (fun v r iv ir h => Bool.and_eq_true_iff.mpr ⟨iv (Bool.and_eq_true_iff.mp h).1, ir (Bool.and_eq_true_iff.mp h).2⟩)
    trivial (fun _ _ _ _ => trivial) (fun _ _ _ => trivial) v
theorem pureVs_iff {l : List PV} : pureVs l = true ↔ ∀ v ∈ l, pureV v = true := by
  induction l with
  | nil => exact ⟨fun _ _ h => (List.not_mem_nil h).elim, fun _ => rfl⟩
  | cons v r ih =>
    refine ⟨fun h x hx => ?_, fun h => Bool.and_eq_true_iff.mpr ⟨h v (List.mem_cons_self ..), ih.mpr fun x hx => h x (List.mem_cons_of_mem _ hx)⟩⟩
    have h := Bool.and_eq_true_iff.mp h
    exact (List.mem_cons.mp hx).elim (fun e => e ▸ h.1) (ih.mp h.2 x)
theorem deeps_le {n : Nat} {l : List PV} : (∀ v ∈ l, deep v ≤ n) → deeps l ≤ n := by
  induction l with
  | nil => exact fun _ => Nat.zero_le _
  | cons v r ih => exact fun h => Nat.max_le.mpr ⟨h v (List.mem_cons_self ..), ih fun x hx => h x (List.mem_cons_of_mem _ hx)⟩

/-! ### dicts of numbers -/
noncomputable abbrev DI := List (Str × Int)
noncomputable def dv (d : DI) : List (Str × PV) := d.map fun kv => (kv.1, .int kv.2)
/-- a measure as a value -/
noncomputable def mv (d : DI) : PV := .tup (d.map fun kv => .tup [.str kv.1, .int kv.2])
theorem dv_len (d : DI) : (dv d).length = d.length := by simp [dv]
theorem dv_put (d : DI) (k : Str) (v : Int) : dput (dv d) k (.int v) = dv (dput d k v) := by
  unfold dput dv
  simp only [List.any_map, Function.comp_def, List.map_map]
  split
  · rw [List.map_map]
    apply List.map_congr_left
    intro kv _
    simp only [Function.comp]
    split <;> rfl
  · simp
theorem dv_get (d : DI) (k : Str) : dget (dv d) k = (dget d k).map .int := by
  unfold dget dv
  rw [List.find?_map]
  simp only [Function.comp_def, Option.map_map]
theorem dv_getD (d : DI) (k : Str) : ((dget (dv d) k).getD (.int 0)) = .int ((dget d k).getD 0) := by
  rw [dv_get]; cases dget d k <;> rfl
theorem dv_keys (d : DI) : (dv d).map (·.1) = d.map (·.1) := by simp [dv]
theorem mv_pure (d : DI) : pureV (mv d) = true := by
  refine pureVs_iff.mpr fun v hv => ?_
  obtain ⟨kv, _, rfl⟩ := List.mem_map.mp hv
  rfl
theorem mv_deep (d : DI) : deep (mv d) ≤ 2 := by
  refine Nat.succ_le_succ (deeps_le fun v hv => ?_)
  obtain ⟨kv, _, rfl⟩ := List.mem_map.mp hv
  exact Nat.le_refl 1
theorem mv_plain (d : DI) : plain (mv d) = true := Bool.and_eq_true_iff.mpr ⟨mv_pure d, decide_eq_true (Nat.le_trans (mv_deep d) (by decide))⟩
theorem pairsOf_mv (d : DI) : pairsOf (d.map fun kv => .tup [.str kv.1, .int kv.2]) = some (dv d) := by
  induction d with
  | nil => rfl
  | cons kv d ih => exact congrArg (Option.map ((kv.1, PV.int kv.2) :: ·)) ih

theorem dput_mem {α : Type} {d : List (Str × α)} {k x : Str} {v : α} : x ∈ (dput d k v).map (·.1) ↔ x = k ∨ x ∈ d.map (·.1) := by
  unfold dput
  split
  · rename_i h
    rw [List.any_eq_true] at h
    obtain ⟨p, hp, hpk⟩ := h
    have hpk : p.1 = k := by simpa using hpk
    rw [List.map_map]
    have e : ((fun kv : Str × α => kv.1) ∘ fun kv : Str × α => if kv.1 = k then (kv.1, v) else kv) = fun kv => kv.1 := by
      funext kv; simp only [Function.comp]; split <;> rfl
    rw [e]
    constructor
    · exact .inr
    · rintro (rfl | h)
      · exact List.mem_map.mpr ⟨p, hp, hpk⟩
      · exact h
  · simp [or_comm]
theorem dput_keys_hit {α : Type} {d : List (Str × α)} {k : Str} {v : α} (h : k ∈ d.map (·.1)) : (dput d k v).map (·.1) = d.map (·.1) := by
  unfold dput
  rw [if_pos (by obtain ⟨p, hp, e⟩ := List.mem_map.mp h; exact List.any_eq_true.mpr ⟨p, hp, by simpa using e⟩), List.map_map]
  apply List.map_congr_left
  intro kv _
  simp only [Function.comp]; split <;> rfl
theorem dput_new {α : Type} {d : List (Str × α)} {k : Str} {v : α} (h : k ∉ d.map (·.1)) : dput d k v = d ++ [(k, v)] := by
  unfold dput
  rw [if_neg]
  intro q
  obtain ⟨p, hp, e⟩ := List.any_eq_true.mp q
  exact h (List.mem_map.mpr ⟨p, hp, by simpa using e⟩)
theorem dput_nodup {α : Type} {d : List (Str × α)} {k : Str} {v : α} (h : (d.map (·.1)).Nodup) : ((dput d k v).map (·.1)).Nodup := by
  by_cases hk : k ∈ d.map (·.1)
  · rw [dput_keys_hit hk]; exact h
  · rw [dput_new hk, List.map_append]
    exact List.nodup_append.mpr ⟨h, by simp, by rintro a ha b hb rfl; simp at hb; exact hk (hb ▸ ha)⟩
theorem dget_put {α : Type} {d : List (Str × α)} {k x : Str} {v : α} : dget (dput d k v) x = if x = k then some v else dget d x := by
  by_cases hk : k ∈ d.map (·.1)
  · unfold dput
    rw [if_pos (by obtain ⟨p, hp, e⟩ := List.mem_map.mp hk; exact List.any_eq_true.mpr ⟨p, hp, by simpa using e⟩)]
    induction d with
    | nil => simp at hk
    | cons p d ih =>
      unfold dget at *
      simp only [List.map_cons, List.find?_cons]
      by_cases hp : p.1 = k
      · simp only [hp, if_true]
        by_cases hx : x = k
        · simp [hx]
        · have : ¬ k = x := fun q => hx q.symm
          simp only [this, decide_false, if_neg hx]
          have hgen : ∀ d : List (Str × α), Option.map (fun x => x.2) (List.find? (fun kv => decide (kv.1 = x)) (List.map (fun kv => if kv.1 = k then (kv.1, v) else kv) d)) = Option.map (fun x => x.2) (List.find? (fun kv => decide (kv.1 = x)) d) := by
            intro d
            induction d with
            | nil => rfl
            | cons q d ih =>
              simp only [List.map_cons, List.find?_cons]
              by_cases hq : q.1 = k
              · simp only [hq, if_true, this, decide_false]; exact ih
              · simp only [hq, if_false]
                cases h : decide (q.1 = x)
                · exact ih
                · rfl
          exact hgen d
      · simp only [hp, if_false]
        have hk' : k ∈ d.map (·.1) := by
          rcases List.mem_cons.mp hk with h | h
          · exact absurd h.symm hp
          · exact h
        by_cases hx : p.1 = x
        · have : ¬ x = k := fun q => hp (hx.trans q)
          simp [hx, this]
        · simp only [hx, decide_false]
          exact ih hk'
  · rw [dput_new hk]
    unfold dget
    rw [List.find?_append]
    by_cases hx : x = k
    · subst hx
      rw [if_pos rfl, List.find?_eq_none.mpr]
      · simp
      · intro p hp q
        exact hk (List.mem_map.mpr ⟨p, hp, by simpa using q⟩)
    · rw [if_neg hx]
      have : ¬ k = x := fun q => hx q.symm
      simp [this]
theorem dget_mem {α : Type} {d : List (Str × α)} (hn : (d.map (·.1)).Nodup) {k : Str} {v : α} (h : (k, v) ∈ d) : dget d k = some v := by
  induction d with
  | nil => simp at h
  | cons p d ih =>
    unfold dget at *
    rw [List.map_cons, List.nodup_cons] at hn
    rw [List.find?_cons]
    rcases List.mem_cons.mp h with rfl | h
    · simp
    · have : ¬ p.1 = k := fun q => hn.1 (List.mem_map.mpr ⟨(k, v), h, q.symm⟩)
      simp only [this, decide_false]
      exact ih hn.2 h
theorem mem_of_dget {α : Type} {d : List (Str × α)} {k : Str} {v : α} (h : dget d k = some v) : (k, v) ∈ d := by
  unfold dget at h
  obtain ⟨p, hp, rfl⟩ := Option.map_eq_some_iff.mp h
  have h1 := List.find?_some hp
  have h2 := List.mem_of_find?_eq_some hp
  have : p.1 = k := by simpa using h1
  subst this; exact h2
theorem dget_none {α : Type} {d : List (Str × α)} {k : Str} (h : k ∉ d.map (·.1)) : dget d k = none := by
  cases hq : dget d k with
  | none => rfl
  | some v => exact absurd (List.mem_map.mpr ⟨_, mem_of_dget hq, rfl⟩) h
theorem dget_some {α : Type} {d : List (Str × α)} {k : Str} (h : k ∈ d.map (·.1)) : ∃ v, dget d k = some v := by
  cases hq : dget d k with
  | some v => exact ⟨v, rfl⟩
  | none =>
    obtain ⟨p, hp, e⟩ := List.mem_map.mp h
    unfold dget at hq
    have := List.find?_eq_none.mp (Option.map_eq_none_iff.mp hq) p hp
    exact absurd e (by simpa using this)

/-! ### sums of measures -/
noncomputable def putF (d : DI) (ms : DI) (n : Int) : DI := ms.foldl (fun d kv => dput d kv.1 ((dget d kv.1).getD 0 + kv.2 * n)) d
theorem putF_nodup {d ms : DI} {n : Int} (h : (d.map (·.1)).Nodup) : ((putF d ms n).map (·.1)).Nodup := by
  unfold putF
  induction ms generalizing d with
  | nil => exact h
  | cons kv ms ih => exact ih (dput_nodup h)
theorem putF_mem {d ms : DI} {n : Int} {x : Str} : x ∈ (putF d ms n).map (·.1) ↔ x ∈ d.map (·.1) ∨ x ∈ ms.map (·.1) := by
  unfold putF
  induction ms generalizing d with
  | nil => simp
  | cons kv ms ih =>
    rw [List.foldl_cons, ih, dput_mem, List.map_cons, List.mem_cons]
    constructor
    · rintro ((h | h) | h)
      · exact .inr (.inl h)
      · exact .inl h
      · exact .inr (.inr h)
    · rintro (h | h | h)
      · exact .inl (.inr h)
      · exact .inl (.inl h)
      · exact .inr h
noncomputable def val (d : DI) (k : Str) : Int := (dget d k).getD 0
theorem putF_val {d ms : DI} {n : Int} (hm : (ms.map (·.1)).Nodup) (k : Str) : val (putF d ms n) k = val d k + val ms k * n := by
  unfold putF
  induction ms generalizing d with
  | nil => simp [val, dget]
  | cons kv ms ih =>
    rw [List.map_cons, List.nodup_cons] at hm
    rw [List.foldl_cons, ih hm.2]
    unfold val
    rw [dget_put]
    by_cases h : k = kv.1
    · subst h
      rw [dget_none hm.1, dget_mem (d := kv :: ms) (by rw [List.map_cons, List.nodup_cons]; exact hm) (List.mem_cons_self ..)]
      simp
    · rw [if_neg h]
      have : dget (kv :: ms) k = dget ms k := by
        unfold dget; rw [List.find?_cons]
        have : ¬ kv.1 = k := fun q => h q.symm
        simp [this]
      rw [this]
theorem dictOf_nodup {ms : DI} (hm : (ms.map (·.1)).Nodup) : dictOfPairs (dv ms) = dv ms := by
  have key : ∀ (ms d : DI), (ms.map (·.1)).Nodup → (∀ x ∈ ms.map (·.1), x ∉ d.map (·.1)) → (dv ms).foldl (fun d kv => dput d kv.1 kv.2) (dv d) = dv (d ++ ms) := by
    intro ms
    induction ms with
    | nil => intro d _ _; simp [dv]
    | cons kv ms ih =>
      intro d hm hd
      rw [List.map_cons, List.nodup_cons] at hm
      have h1 := hd kv.1 (by simp)
      show (dv ms).foldl _ (dput (dv d) kv.1 (.int kv.2)) = _
      rw [dv_put, dput_new h1, ih _ hm.2]
      · simp
      · intro x hx
        rw [List.map_append, List.mem_append]
        rintro (h | h)
        · exact hd x (by rw [List.map_cons]; exact List.mem_cons_of_mem _ hx) h
        · simp at h; subst h; exact hm.1 hx
  have := key ms [] hm (by simp)
  exact this

/-! ### the sorted measure of a dict -/
noncomputable def madeL (d : DI) : DI := (sortS (d.map (·.1))).filterMap fun k => if val d k ≠ 0 then some (k, val d k) else none
theorem mem_of_nodup_le {α : Type} [DecidableEq α] : ∀ {l m : List α}, l.Nodup → (∀ x ∈ l, x ∈ m) → l.length ≤ m.length
  | [], m, _, _ => Nat.zero_le _
  | x :: l, m, hn, hs => by
    rw [List.nodup_cons] at hn
    have hx := hs x (List.mem_cons_self ..)
    have h1 := mem_of_nodup_le (l := l) (m := m.erase x) hn.2 (fun y hy => by
      have hne : y ≠ x := fun q => hn.1 (q ▸ hy)
      exact (List.mem_erase_of_ne hne).mpr (hs y (List.mem_cons_of_mem _ hy)))
    rw [List.length_erase_of_mem hx] at h1
    have := List.length_pos_of_mem hx
    rw [List.length_cons]; exact ar1 h1 this

/-- a measure: keys rising, none empty, no nought -/
noncomputable def Meas (d : DI) : Prop := d.Pairwise (fun a b => strLt a.1 b.1 = true) ∧ ∀ kv ∈ d, kv.1 ≠ (⟨#[]⟩ : Str) ∧ kv.2 ≠ 0
theorem Meas.nodup {d : DI} (h : Meas d) : (d.map (·.1)).Nodup := by
  rw [List.Nodup, List.pairwise_map]
  exact h.1.imp fun {a b} hab q => by rw [q, strLt_irr] at hab; exact nomatch hab
theorem sortS_nodup {l : List Str} (h : l.Nodup) : (sortS l).Pairwise fun a b => strLt a b = true := by
  have h1 := sortS_sorted l
  have h2 : (sortS l).Nodup := (sortS_perm l).symm.nodup h
  exact (h1.and h2).imp fun ⟨a, b⟩ => strLt_of_le_ne a b
theorem madeL_mem {d : DI} {kv : Str × Int} (h : kv ∈ madeL d) : kv.1 ∈ d.map (·.1) ∧ kv.2 = val d kv.1 ∧ kv.2 ≠ 0 := by
  unfold madeL at h
  obtain ⟨k, hk, e⟩ := List.mem_filterMap.mp h
  split at e
  · cases e; exact ⟨(sortS_perm _).mem_iff.mp hk, rfl, by assumption⟩
  · exact nomatch e
theorem madeL_meas {d : DI} (hn : (d.map (·.1)).Nodup) (he : ∀ k ∈ d.map (·.1), k ≠ (⟨#[]⟩ : Str)) : Meas (madeL d) := by
  refine ⟨?_, fun kv h => ⟨he _ (madeL_mem h).1, (madeL_mem h).2.2⟩⟩
  unfold madeL
  refine List.Pairwise.filterMap _ ?_ (sortS_nodup hn)
  intro a b hab x hx y hy
  split at hx <;> split at hy <;> simp_all
  obtain ⟨rfl, rfl⟩ := hx; obtain ⟨rfl, rfl⟩ := hy; exact hab
theorem sortS_fix {l : List Str} (h : l.Pairwise fun a b => strLt a b = true) : sortS l = l :=
  (sortS_unique (.refl _) (h.imp strLt_asymm)).symm
theorem val_bd {d : DI} {B : Nat} (h : ∀ kv ∈ d, kv.2.natAbs ≤ B) (k : Str) : (val d k).natAbs ≤ B := by
  unfold val
  cases hq : dget d k with
  | none => simp
  | some v => exact h _ (mem_of_dget hq)
end Mine

set_option autoImplicit false
set_option backward.match.sparseCases true
namespace Mine
open PySem

/-- ghost state: where the tracked objects lie; which addresses are frozen; which are locked -/
structure Cfg where
  μ : List Addr
  Φ : Addr → Prop
  lk : Addr → Prop

section
variable (prog : Program) (w : World) (g : Cfg) (h : Heap)

noncomputable def IsRng (h : Heap) (a : Addr) (lo hi : Int) : Prop := lo.natAbs ≤ 1000000 ∧ hi.natAbs ≤ 1000000 ∧ ∃ t u v, IsRange h a lo hi 1 t u v

noncomputable def IsTupX (h : Heap) (a : Addr) (vs : Array Value) : Prop := ∃ n, h.get? a = some { cls := .type "tuple", dict := none, data := .seq vs n, slots := #[] }

noncomputable def IsListX (h : Heap) (a : Addr) (vs : Array Value) : Prop := ∃ n, h.get? a = some { cls := .type "list", dict := none, data := .seq vs n, slots := #[] }

mutual
inductive VR : PV → Value → Prop where
  | none : VR .none .none
  | bool (b : Bool) : VR (.bool b) (.bool b)
  | int (i : Int) (t : Tok) : VR (.int i) (.int i t)
  | str (x : Str) (t : Tok) : VR (.str x) (.str x t)
  | tup {l : List PV} {a : Addr} {vs : Array Value} : g.Φ a → IsTupX h a vs → VRs l vs.toList → VR (.tup l) (.ref a)
  | lst {l : List PV} {a : Addr} {vs : Array Value} : g.Φ a → IsListX h a vs → VRs l vs.toList → VR (.lst l) (.ref a)
  | dct {l : List (Str × PV)} {a : Addr} {kvs : List (Str × Value)} : g.Φ a → a ≠ sysModules → h.DictOf (strKind prog w) a kvs → VRd l kvs → VR (.dct l) (.ref a)
  | rng {lo hi : Int} {a : Addr} : g.Φ a → IsRng h a lo hi → VR (.rng lo hi) (.ref a)
  | ref {i : Nat} {a : Addr} : g.μ[i]? = some a → VR (.ref i) (.ref a)
inductive VRs : List PV → List Value → Prop where
  | nil : VRs [] []
  | cons {v : PV} {x : Value} {l : List PV} {r : List Value} : VR v x → VRs l r → VRs (v :: l) (x :: r)
inductive VRd : List (Str × PV) → List (Str × Value) → Prop where
  | nil : VRd [] []
  | cons {k : Str} {v : PV} {x : Value} {l : List (Str × PV)} {r : List (Str × Value)} : VR v x → VRd l r → VRd ((k, v) :: l) ((k, x) :: r)
end

/-- a class: where it lies, its names -/
structure CI where
  C : Addr
  N : Addr
  mN : Str → Option Value
variable (cls : Str → Option CI)

/-- a thing of a class -/
noncomputable def IsInst (h : Heap) (a C dx : Addr) : Prop := ∃ o, h.get? a = some o ∧ o.cls = .ref C ∧ (∀ c, o.data ≠ .cls c) ∧ o.dict = some dx ∧ dx ≠ a
/-- its attributes -/
noncomputable def NsR (l : List (Str × PV)) (m : Str → Option Value) : Prop := ∀ k, (∀ v, dget l k = some v → ∃ x, m k = some x ∧ VR prog w g h v x) ∧ (dget l k = none → m k = none)

noncomputable def OR : AObj → Addr → Prop
  | .list b l, a => (b = true ↔ g.lk a) ∧ ∃ vs, IsListX h a vs ∧ VRs prog w g h l vs.toList
  | .dict b l, a => (b = true ↔ g.lk a) ∧ ∃ kvs, h.DictOf (strKind prog w) a kvs ∧ VRd prog w g h l kvs
  | .inst k d, a => ¬ g.lk a ∧ ∃ I dx, cls k = some I ∧ g.μ[d]? = some dx ∧ IsInst h a I.C dx
  | .ns l, a => ¬ g.lk a ∧ ∃ m, h.Ns1 a m ∧ NsR prog w g h l m

structure Rel (B : Heap) (σ : AH) : Prop where
  len : g.μ.length = σ.length
  nodup : g.μ.Nodup
  disj : ∀ a ∈ g.μ, ¬ g.Φ a
  lkμ : ∀ a, g.lk a → a ∈ g.μ
  live : ∀ a, g.Φ a → (h.get? a).isSome = true
  base : ∀ b o, B.get? b = some o → h.get? b = some o
  baseμ : ∀ a ∈ g.μ, B.get? a = none
  objs : ∀ (i : Nat) o a, σ[i]? = some o → g.μ[i]? = some a → OR prog w g h cls o a
end

/-- what a step may do -/
structure Ext (own : Addr → Prop) (g : Cfg) (s : Shared) (g' : Cfg) (s' : Shared) : Prop where
  pre : g.μ <+: g'.μ
  sub : ∀ a, g.Φ a → g'.Φ a
  newμ : ∀ a ∈ g'.μ, a ∈ g.μ ∨ s.heap.get? a = none
  newΦ : ∀ a, g'.Φ a → g.Φ a ∨ s.heap.get? a = none
  lock : g'.lk = g.lk
  keep : ∀ b o, s.heap.get? b = some o → (b ∉ g.μ ∨ g.lk b) → ¬ own b → s'.heap.get? b = some o
  live : ∀ b, (s.heap.get? b).isSome = true → (s'.heap.get? b).isSome = true
  gens : s'.gens = s.gens
  os : s'.os = s.os

noncomputable abbrev noOwn : Addr → Prop := fun _ => False

theorem isSome_of {α : Type} {x : Option α} {a : α} (h : x = some a) : x.isSome = true := by rw [h]; rfl
theorem none_of_live {s s' : Shared} (hl : ∀ b, (s.heap.get? b).isSome = true → (s'.heap.get? b).isSome = true) {b : Addr} (e : s'.heap.get? b = none) : s.heap.get? b = none := by
  cases hq : s.heap.get? b with
  | none => rfl
  | some o => have := hl b (isSome_of hq); rw [e] at this; cases this

namespace Ext
variable {own own' : Addr → Prop} {g g' g'' : Cfg} {s s' s'' : Shared}

theorem refl (g : Cfg) (s : Shared) : Ext own g s g s :=
  ⟨List.prefix_refl _, fun _ h => h, fun _ h => .inl h, fun _ h => .inl h, rfl, fun _ _ e _ _ => e, fun _ h => h, rfl, rfl⟩

theorem notμ (e : Ext own g s g' s') {b : Addr} {o : Obj} (hb : s.heap.get? b = some o) (hn : b ∉ g.μ) : b ∉ g'.μ := fun hm =>
  (e.newμ b hm).elim hn fun hq => by rw [hb] at hq; cases hq
theorem notΦ (e : Ext own g s g' s') {b : Addr} {o : Obj} (hb : s.heap.get? b = some o) (hn : ¬ g.Φ b) : ¬ g'.Φ b := fun hm =>
  (e.newΦ b hm).elim hn fun hq => by rw [hb] at hq; cases hq

theorem trans (x : Ext own g s g' s') (y : Ext own g' s' g'' s'') : Ext own g s g'' s'' where
  pre := x.pre.trans y.pre
  sub := fun a h => y.sub a (x.sub a h)
  newμ := fun a h => (y.newμ a h).elim (x.newμ a) fun q => .inr (none_of_live x.live q)
  newΦ := fun a h => (y.newΦ a h).elim (x.newΦ a) fun q => .inr (none_of_live x.live q)
  lock := y.lock.trans x.lock
  keep := fun b o e hn ho => y.keep b o (x.keep b o e hn ho) (hn.imp (x.notμ e) fun q => x.lock ▸ q) ho
  live := fun b h => y.live b (x.live b h)
  gens := y.gens.trans x.gens
  os := y.os.trans x.os

theorem mono (x : Ext own g s g' s') (h : ∀ a, own a → own' a) : Ext own' g s g' s' :=
  { x with keep := fun b o e hn ho => x.keep b o e hn fun q => ho (h b q) }
theorem weaken (x : Ext noOwn g s g' s') : Ext own g s g' s' := x.mono fun _ h => h.elim

/-- tokens do not matter -/
theorem toks {t : Nat} (x : Ext own g s g' s') : Ext own g s g' { s' with toks := t } :=
  { x with }
theorem toks_left {t : Nat} (x : Ext own g { s with toks := t } g' s') : Ext own g s g' s' :=
  { x with }
end Ext

section
variable {prog : Program} {w : World} {g g' : Cfg} {h h' : Heap}

theorem VR.ind {P : PV → Value → Prop} {Q : List PV → List Value → Prop} {S : List (Str × PV) → List (Str × Value) → Prop}
    (h1 : P .none .none) (h2 : ∀ b, P (.bool b) (.bool b)) (h3 : ∀ i t, P (.int i) (.int i t)) (h4 : ∀ x t, P (.str x) (.str x t))
    (h5 : ∀ l a vs, g.Φ a → IsTupX h a vs → VRs prog w g h l vs.toList → Q l vs.toList → P (.tup l) (.ref a))
    (h6 : ∀ l a vs, g.Φ a → IsListX h a vs → VRs prog w g h l vs.toList → Q l vs.toList → P (.lst l) (.ref a))
    (h7 : ∀ l a kvs, g.Φ a → a ≠ sysModules → h.DictOf (strKind prog w) a kvs → VRd prog w g h l kvs → S l kvs → P (.dct l) (.ref a))
    (h8 : ∀ lo hi a, g.Φ a → IsRng h a lo hi → P (.rng lo hi) (.ref a)) (h9 : ∀ i a, g.μ[i]? = some a → P (.ref i) (.ref a))
    (h10 : Q [] []) (h11 : ∀ v x l r, VR prog w g h v x → VRs prog w g h l r → P v x → Q l r → Q (v :: l) (x :: r))
    (h12 : S [] []) (h13 : ∀ k v x l r, VR prog w g h v x → VRd prog w g h l r → P v x → S l r → S ((k, v) :: l) ((k, x) :: r)) :
    (∀ {v x}, VR prog w g h v x → P v x) ∧ (∀ {l r}, VRs prog w g h l r → Q l r) ∧ ∀ {l r}, VRd prog w g h l r → S l r :=
  ⟨fun q => q.rec (motive_1 := fun v x _ => P v x) (motive_2 := fun l r _ => Q l r) (motive_3 := fun l r _ => S l r) h1 h2 h3 h4 (fun a b c d => h5 _ _ _ a b c d) (fun a b c d => h6 _ _ _ a b c d) (fun a b c d e => h7 _ _ _ a b c d e) (fun a b => h8 _ _ _ a b) (fun a => h9 _ _ a) h10 (fun a b c d => h11 _ _ _ _ a b c d) h12 (fun a b c d => h13 _ _ _ _ _ a b c d),
   fun q => q.rec (motive_1 := fun v x _ => P v x) (motive_2 := fun l r _ => Q l r) (motive_3 := fun l r _ => S l r) h1 h2 h3 h4 (fun a b c d => h5 _ _ _ a b c d) (fun a b c d => h6 _ _ _ a b c d) (fun a b c d e => h7 _ _ _ a b c d e) (fun a b => h8 _ _ _ a b) (fun a => h9 _ _ a) h10 (fun a b c d => h11 _ _ _ _ a b c d) h12 (fun a b c d => h13 _ _ _ _ _ a b c d),
   fun q => q.rec (motive_1 := fun v x _ => P v x) (motive_2 := fun l r _ => Q l r) (motive_3 := fun l r _ => S l r) h1 h2 h3 h4 (fun a b c d => h5 _ _ _ a b c d) (fun a b c d => h6 _ _ _ a b c d) (fun a b c d e => h7 _ _ _ a b c d e) (fun a b => h8 _ _ _ a b) (fun a => h9 _ _ a) h10 (fun a b c d => h11 _ _ _ _ a b c d) h12 (fun a b c d => h13 _ _ _ _ _ a b c d)⟩
theorem VR.mono3 (hp : g.μ <+: g'.μ) (hs : ∀ a, g.Φ a → g'.Φ a) (hk : ∀ a o, g.Φ a → h.get? a = some o → h'.get? a = some o) :
    (∀ {v x}, VR prog w g h v x → VR prog w g' h' v x) ∧ (∀ {l r}, VRs prog w g h l r → VRs prog w g' h' l r) ∧ ∀ {l r}, VRd prog w g h l r → VRd prog w g' h' l r :=
  VR.ind .none .bool .int .str (fun _ _ _ ha ho _ q => .tup (hs _ ha) (ho.elim fun n e => ⟨n, hk _ _ ha e⟩) q) (fun _ _ _ ha ho _ q => .lst (hs _ ha) (ho.elim fun n e => ⟨n, hk _ _ ha e⟩) q)
    (fun _ _ _ ha hm ho _ q => .dct (hs _ ha) hm (let ⟨o, es, ep, e, r⟩ := ho; ⟨o, es, ep, hk _ _ ha e, r⟩) q) (fun _ _ _ ha ho => .rng (hs _ ha) (let ⟨b1, b2, t, u, v, e⟩ := ho; ⟨b1, b2, t, u, v, hk _ _ ha e⟩))
    (fun _ _ hi => .ref (by
      obtain ⟨t, ht⟩ := hp
      have hlt := (List.getElem?_eq_some_iff.mp hi).1
      rw [← ht, List.getElem?_append_left hlt]; exact hi)) .nil (fun _ _ _ _ _ _ a b => .cons a b) .nil (fun _ _ _ _ _ _ _ a b => .cons a b)
theorem VR.mono (hp : g.μ <+: g'.μ) (hs : ∀ a, g.Φ a → g'.Φ a) (hk : ∀ a o, g.Φ a → h.get? a = some o → h'.get? a = some o) {v : PV} {x : Value} : VR prog w g h v x → VR prog w g' h' v x := (VR.mono3 hp hs hk).1
theorem VRs.mono (hp : g.μ <+: g'.μ) (hs : ∀ a, g.Φ a → g'.Φ a) (hk : ∀ a o, g.Φ a → h.get? a = some o → h'.get? a = some o) {l : List PV} {r : List Value} : VRs prog w g h l r → VRs prog w g' h' l r := (VR.mono3 hp hs hk).2.1
theorem VRd.mono (hp : g.μ <+: g'.μ) (hs : ∀ a, g.Φ a → g'.Φ a) (hk : ∀ a o, g.Φ a → h.get? a = some o → h'.get? a = some o) {l : List (Str × PV)} {r : List (Str × Value)} : VRd prog w g h l r → VRd prog w g' h' l r := (VR.mono3 hp hs hk).2.2

theorem isList_of {h : Heap} {a : Addr} {vs : Array Value} (x : IsListX h a vs) : h.IsList a vs := let ⟨n, e⟩ := x; ⟨_, e, rfl, n, rfl⟩
theorem isTuple_of {h : Heap} {a : Addr} {vs : Array Value} (x : IsTupX h a vs) : h.IsTuple a vs := let ⟨n, e⟩ := x; ⟨_, e, rfl, n, rfl⟩

theorem VR.lens : (∀ {v x}, VR prog w g h v x → True) ∧ (∀ {l r}, VRs prog w g h l r → l.length = r.length) ∧ ∀ {l r}, VRd prog w g h l r → l.length = r.length ∧ r.map (·.1) = l.map (·.1) :=
  VR.ind trivial (fun _ => trivial) (fun _ _ => trivial) (fun _ _ => trivial) (fun _ _ _ _ _ _ _ => trivial) (fun _ _ _ _ _ _ _ => trivial) (fun _ _ _ _ _ _ _ _ => trivial) (fun _ _ _ _ _ => trivial) (fun _ _ _ => trivial)
    rfl (fun _ _ _ _ _ _ _ q => congrArg Nat.succ q) ⟨rfl, rfl⟩ (fun _ _ _ _ _ _ _ _ q => ⟨congrArg Nat.succ q.1, congrArg (List.cons _) q.2⟩)
theorem VRs.length {l : List PV} {r : List Value} (q : VRs prog w g h l r) : l.length = r.length := VR.lens.2.1 q
theorem VRd.length {l : List (Str × PV)} {r : List (Str × Value)} (q : VRd prog w g h l r) : l.length = r.length := (VR.lens.2.2 q).1
theorem VRs.get {l : List PV} {r : List Value} (hv : VRs prog w g h l r) : ∀ {i : Nat} {v : PV}, l[i]? = some v → ∃ x, r[i]? = some x ∧ VR prog w g h v x := by
  induction l generalizing r with
  | nil => intro i v e; simp at e
  | cons a l ih =>
    intro i v e
    cases hv with
    | cons ha hl =>
      cases i with
      | zero => simp only [List.getElem?_cons_zero, Option.some.injEq] at e; subst e; exact ⟨_, rfl, ha⟩
      | succ i => simp only [List.getElem?_cons_succ] at e ⊢; exact ih hl e
theorem NsR.mono (hp : g.μ <+: g'.μ) (hs : ∀ a, g.Φ a → g'.Φ a) (hk : ∀ a o, g.Φ a → h.get? a = some o → h'.get? a = some o) {l : List (Str × PV)} {m : Str → Option Value} (q : NsR prog w g h l m) : NsR prog w g' h' l m :=
  fun k => ⟨fun v e => let ⟨x, h1, h2⟩ := (q k).1 v e; ⟨x, h1, h2.mono hp hs hk⟩, (q k).2⟩
theorem VRs.append {l₁ l₂ : List PV} {r₁ r₂ : List Value} (h₁ : VRs prog w g h l₁ r₁) (h₂ : VRs prog w g h l₂ r₂) : VRs prog w g h (l₁ ++ l₂) (r₁ ++ r₂) := by
  induction l₁ generalizing r₁ with
  | nil => cases h₁; exact h₂
  | cons a l ih => cases h₁ with | cons ha hl => exact .cons ha (ih hl)
theorem VRs.take {l : List PV} {r : List Value} (hv : VRs prog w g h l r) (n : Nat) : VRs prog w g h (l.take n) (r.take n) := by
  induction n generalizing l r with
  | zero => simpa using VRs.nil
  | succ n ih => cases hv with
    | nil => simpa using VRs.nil
    | cons a b => simpa using VRs.cons a (ih b)
theorem VRs.drop {l : List PV} {r : List Value} (hv : VRs prog w g h l r) (n : Nat) : VRs prog w g h (l.drop n) (r.drop n) := by
  induction n generalizing l r with
  | zero => simpa using hv
  | succ n ih => cases hv with
    | nil => simpa using VRs.nil
    | cons a b => simpa using ih b
theorem VRd.keys {l : List (Str × PV)} {r : List (Str × Value)} (q : VRd prog w g h l r) : r.map (·.1) = l.map (·.1) := (VR.lens.2.2 q).2
theorem VRd.get {l : List (Str × PV)} {r : List (Str × Value)} (hv : VRd prog w g h l r) (k : Str) : match dget l k with
    | some v => ∃ x, valueAt r k = some x ∧ VR prog w g h v x
    | none => valueAt r k = none := by
  induction l generalizing r with
  | nil => cases hv; simp [dget, valueAt]
  | cons p l ih =>
    cases hv with
    | @cons k' v x _ r ha hl =>
      have := ih hl
      by_cases hk : k' = k
      · subst hk; simpa [dget, valueAt] using ha
      · simpa [dget, valueAt, List.find?_cons, hk] using this
theorem VRd.has {l : List (Str × PV)} {r : List (Str × Value)} (hv : VRd prog w g h l r) (k : Str) : (r.any fun kv => kv.1 = k) = dhas l k := by
  induction l generalizing r with
  | nil => cases hv; rfl
  | cons p l ih => cases hv with | cons _ hl => simp only [List.any_cons, dhas]; rw [ih hl]; rfl
theorem VRd.put {l : List (Str × PV)} {r : List (Str × Value)} (hv : VRd prog w g h l r) {k : Str} {v : PV} {x : Value} (hx : VR prog w g h v x) : VRd prog w g h (dput l k v) (stored r k x) := by
  have hh := hv.has k
  unfold dput stored
  rw [hh]
  show VRd prog w g h (if dhas l k = true then _ else _) (if dhas l k = true then _ else _)
  have h1 : VRd prog w g h (l.map fun kv => if kv.1 = k then (kv.1, v) else kv) (r.map fun kv => if kv.1 = k then (kv.1, x) else kv) := by
    clear hh
    induction l generalizing r with
    | nil => cases hv; exact .nil
    | cons p l ih =>
      cases hv with
      | @cons k' _ _ _ _ ha hl =>
        simp only [List.map_cons]
        by_cases hk : k' = k
        · simp only [hk, if_true]; exact .cons hx (ih hl)
        · simp only [hk, if_false]; exact .cons ha (ih hl)
  have h2 : VRd prog w g h (l ++ [(k, v)]) (r ++ [(k, x)]) := by
    clear hh h1
    induction l generalizing r with
    | nil => cases hv; exact .cons hx .nil
    | cons p l ih => cases hv with | cons ha hl => exact .cons ha (ih hl)
  split
  · exact h1
  · exact h2
end

end Mine

set_option autoImplicit false
set_option backward.match.sparseCases false
namespace Mine
open PySem

/-! The check that a tree of mine says what the syntax says. nm: the scope's names as they are at run time; vm: names and slots. -/

noncomputable abbrev NM := List (Str × NameKind)
noncomputable abbrev VM := List (Str × Nat)

noncomputable def isVar : Option NameKind → Bool
  | some .local | some .cell | some .free => true
  | _ => false
noncomputable def isOwn : Option NameKind → Bool
  | some .local | some .cell => true
  | _ => false
noncomputable def isGlob : Option NameKind → Bool
  | some .globalImplicit => true
  | _ => false
noncomputable def plainName (x : Str) : Bool := !(x == ("__debug__" : Str)) && !(x == ("__classdict__" : Str))

/-- what a form of the syntax holds -/
noncomputable def onE {α : Type} (o : Option α) (f : α → Bool) : Bool := match o with
  | some a => f a
  | none => false
theorem onE_inv {α : Type} {o : Option α} {f : α → Bool} (h : onE o f = true) : ∃ a, o = some a ∧ f a = true := by
  cases o with
  | none => cases h
  | some a => exact ⟨a, rfl, h⟩
noncomputable def asName (e : Expr) : Option {q : Str × _ // e = .Name q.1 q.2} := match e with
  | .Name x p => some ⟨(x, p), rfl⟩
  | _ => none
noncomputable def asTup (e : Expr) : Option {q : List Expr × _ × _ // e = .Tuple q.1 q.2.1 q.2.2} := match e with
  | .Tuple es a p => some ⟨(es, a, p), rfl⟩
  | _ => none
noncomputable def chkNames (nm : NM) (vm : VM) : List Nat → List Expr → Bool
  | [], l => l.isEmpty
  | i :: is, l => onE l.head? fun a => onE (asName a) fun x => vm.lookup x.1.1 == some i && isOwn (nm.lookup x.1.1) && chkNames nm vm is l.tail
noncomputable def chkT (nm : NM) (vm : VM) (t : Tgt) (e : Expr) : Bool := match t with
  | .one i => onE (asName e) fun x => vm.lookup x.1.1 == some i && isOwn (nm.lookup x.1.1)
  | .many is => onE (asTup e) fun es => chkNames nm vm is es.1.1

noncomputable def namesOf : List Expr → List Str
  | [] => []
  | .Name x _ :: es => x :: namesOf es
  | _ :: es => namesOf es
noncomputable def tgtNames : Expr → List Str
  | .Name x _ => [x]
  | .Tuple es _ _ => namesOf es
  | _ => []
/-- the run-time names of a comprehension's own block -/
noncomputable def compNames (nm : NM) (own : NM) : NM := own.map fun (n, k) => if k == .free && nm.lookup n == some .cell then (n, .cell) else (n, k)
noncomputable def compVM (vm : VM) (t : Tgt) (e : Expr) : VM := (tgtNames e).zip (tgtSlots t) ++ vm
noncomputable def compScopeOk (nm : NM) (vm : VM) (e : Expr) (sc : Scope) : Bool :=
  sc.kind == .function && decide ((sc.names.map (·.1)).Nodup) && sc.names.all fun (n, k) => match k with
    | .local => (n == (".0" : Str) && (vm.lookup n).isNone) || (tgtNames e).contains n
    | .free => !(tgtNames e).contains n && (vm.lookup n).isSome && (nm.lookup n == some .cell || nm.lookup n == some .free)
    | .globalImplicit => true
    | _ => false

noncomputable def notSlice : Expr → Bool
  | .Slice .. => false
  | _ => true
/-- no call super() -/
noncomputable def plainBase : Expr → Bool
  | .Call (.Name _ _) [] [] _ => false
  | _ => true

noncomputable def Ty.word : Ty → Str
  | .int => "int" | .bool => "bool" | .str => "str" | .tuple => "tuple" | .list => "list" | .dict => "dict"
noncomputable def BI.word : BI → Str
  | .len => "len" | .sorted => "sorted" | .tuple => "tuple" | .dict => "dict" | .str => "str" | .range => "range" | .isinst _ => "isinstance"
  | .list => "list" | .int => "int" | .abs => "abs" | .range2 => "range" | .min2 => "min" | .sum => "sum" | .sortedSet => "sorted"
noncomputable def BM.word : BM → Str
  | .append => "append" | .extend => "extend" | .get => "get"

/-- a name of the top, no method's -/
noncomputable def noDot (f : Str) : Bool := !f.cps.contains 46

noncomputable def okConst : Const → Bool
  | .none | .bool _ | .int _ | .str _ => true
  | _ => false

noncomputable def isTT : PE → Bool
  | .const (.bool true) => true
  | _ => false

noncomputable def ifsOk (tt : Bool) (f : Expr → Bool) : List Expr → Bool
  | [] => tt
  | [e] => f e
  | _ => false

noncomputable def nameOf : Expr → Option Str
  | .Name x _ => some x
  | _ => none
noncomputable def callOf : Expr → Option (Expr × List Expr × Bool)
  | .Call f as kws _ => some (f, as, kws.isEmpty)
  | _ => none
noncomputable def firstTwo : List Expr → Option (Expr × Expr)
  | [e, n] => some (e, n)
  | _ => none
noncomputable def onlyOne : List Expr → Option Expr
  | [e] => some e
  | _ => none
/-- the written arguments of a built-in that are evaluated -/
noncomputable def biArgs (nm : NM) (b : BI) (as : List Expr) : Option (List Expr) := match b with
  | .isinst t => (firstTwo as).bind fun p => (nameOf p.2).bind fun y => if (y == t.word && isGlob (nm.lookup y) && plainName y) = true then some [p.1] else none
  | .sortedSet => (onlyOne as).bind fun e => (callOf e).bind fun q => (nameOf q.1).bind fun y => if (y == "set" && isGlob (nm.lookup y) && plainName y && q.2.2) = true then some q.2.1 else none
  | _ => some as
noncomputable def isAnd : BoolOp → Bool
  | .And => true
  | _ => false
noncomputable def isOr : BoolOp → Bool
  | .Or => true
  | _ => false
noncomputable def isNot : UnaryOp → Bool
  | .Not => true
  | _ => false
noncomputable def isNeg : UnaryOp → Bool
  | .USub => true
  | _ => false
noncomputable def compTop (nm : NM) (vm : VM) (t : Tgt) (sc : Scope) (q : Comprehension) (c1 c2 : Bool) (c3 : Expr → Bool) (tt : Bool) : Bool :=
  decide (q.is_async = 0) && c1 && compScopeOk nm vm q.target sc && decide (((compVM vm t q.target).map (·.2)).Nodup) && chkT (compNames nm sc.names) (compVM vm t q.target) t q.target &&
    c2 && ifsOk tt c3 q.ifs
noncomputable def asConst (e : Expr) : Option {q : Const × _ × _ // e = .Constant q.1 q.2.1 q.2.2} := match e with
  | .Constant c a b => some ⟨(c, a, b), rfl⟩
  | _ => none
noncomputable def asBool (e : Expr) : Option {q : BoolOp × List Expr × _ // e = .BoolOp q.1 q.2.1 q.2.2} := match e with
  | .BoolOp o vs p => some ⟨(o, vs, p), rfl⟩
  | _ => none
noncomputable def asBin (e : Expr) : Option {q : Expr × Operator × Expr × _ // e = .BinOp q.1 q.2.1 q.2.2.1 q.2.2.2} := match e with
  | .BinOp l o r p => some ⟨(l, o, r, p), rfl⟩
  | _ => none
noncomputable def asUn (e : Expr) : Option {q : UnaryOp × Expr × _ // e = .UnaryOp q.1 q.2.1 q.2.2} := match e with
  | .UnaryOp o x p => some ⟨(o, x, p), rfl⟩
  | _ => none
noncomputable def asCmp (e : Expr) : Option {q : Expr × List CmpOp × List Expr × _ // e = .Compare q.1 q.2.1 q.2.2.1 q.2.2.2} := match e with
  | .Compare l os rs p => some ⟨(l, os, rs, p), rfl⟩
  | _ => none
noncomputable def asLst (e : Expr) : Option {q : List Expr × _ // e = .List q.1 q.2} := match e with
  | .List es p => some ⟨(es, p), rfl⟩
  | _ => none
noncomputable def asEDict (e : Expr) : Option {q : Pos // e = .Dict [] [] q} := match e with
  | .Dict [] [] p => some ⟨p, rfl⟩
  | _ => none
noncomputable def asSub (e : Expr) : Option {q : Expr × Expr × _ // e = .Subscript q.1 q.2.1 q.2.2} := match e with
  | .Subscript v i p => some ⟨(v, i, p), rfl⟩
  | _ => none
noncomputable def asSlice (e : Expr) : Option {q : Option Expr × Option Expr × Option Expr × _ // e = .Slice q.1 q.2.1 q.2.2.1 q.2.2.2} := match e with
  | .Slice a b c p => some ⟨(a, b, c, p), rfl⟩
  | _ => none
noncomputable def asComp (e : Expr) : Option {q : Expr × List Comprehension × Scope × _ // e = .ListComp q.1 q.2.1 q.2.2.1 q.2.2.2} := match e with
  | .ListComp e gs sc p => some ⟨(e, gs, sc, p), rfl⟩
  | _ => none
noncomputable def asAttr (e : Expr) : Option {q : Expr × Str × _ // e = .Attribute q.1 q.2.1 q.2.2} := match e with
  | .Attribute v x p => some ⟨(v, x, p), rfl⟩
  | _ => none
noncomputable def asCall (e : Expr) : Option {q : Expr × List Expr × _ // e = .Call q.1 q.2.1 [] q.2.2} := match e with
  | .Call f as [] p => some ⟨(f, as, p), rfl⟩
  | _ => none
noncomputable def one1 {α : Type} (l : List α) : Option {a : α // l = [a]} := match l with
  | [a] => some ⟨a, rfl⟩
  | _ => none
noncomputable def sl1 : Option Expr × Option Expr × Option Expr × Pos → Option Expr
  | (some l, none, none, _) => some l
  | _ => none
noncomputable def sl2 : Option Expr × Option Expr × Option Expr × Pos → Option (Expr × Expr)
  | (some l, some u, none, _) => some (l, u)
  | _ => none
mutual
noncomputable def chkE : PE → NM → VM → Expr → Bool
  | .const c, _, _, e => onE (asConst e) fun p => okConst c && decide (c = p.1.1)
  | .loc i, nm, vm, e => onE (asName e) fun p => vm.lookup p.1.1 == some i && isVar (nm.lookup p.1.1) && plainName p.1.1
  | .andE es, nm, vm, e => onE (asBool e) fun p => isAnd p.1.1 && chkEs es nm vm p.1.2.1
  | .orE es, nm, vm, e => onE (asBool e) fun p => isOr p.1.1 && chkEs es nm vm p.1.2.1
  | .bin op a b, nm, vm, e => onE (asBin e) fun p => decide (op = p.1.2.1) && chkE a nm vm p.1.1 && chkE b nm vm p.1.2.2.1
  | .notE a, nm, vm, e => onE (asUn e) fun p => isNot p.1.1 && chkE a nm vm p.1.2.1
  | .neg a, nm, vm, e => onE (asUn e) fun p => isNeg p.1.1 && chkE a nm vm p.1.2.1
  | .cmp op a b, nm, vm, e => onE (asCmp e) fun p => onE (one1 p.1.2.1) fun q => onE (one1 p.1.2.2.1) fun r => decide (op = q.1) && chkE a nm vm p.1.1 && chkE b nm vm r.1
  | .tup es, nm, vm, e => onE (asTup e) fun p => decide (p.1.1.length < 1000) && chkEs es nm vm p.1.1
  | .lst es, nm, vm, e => onE (asLst e) fun p => decide (p.1.1.length < 1000) && chkEs es nm vm p.1.1
  | .edict, _, _, e => onE (asEDict e) fun _ => true
  | .idx a i, nm, vm, e => onE (asSub e) fun p => chkE a nm vm p.1.1 && chkE i nm vm p.1.2.1
  | .comp elt t it cond, nm, vm, e => onE (asComp e) fun p => onE (one1 p.1.2.1) fun q => compTop nm vm t p.1.2.2.1 q.1 (chkE it nm vm q.1.iter) (chkE elt (compNames nm p.1.2.2.1.names) (compVM vm t q.1.target) p.1.1) (chkE cond (compNames nm p.1.2.2.1.names) (compVM vm t q.1.target)) (isTT cond)
  | .sliceF a lo, nm, vm, e => onE (asSub e) fun p => onE (asSlice p.1.2.1) fun q => onE (sl1 q.1) fun l => chkE a nm vm p.1.1 && chkE lo nm vm l
  | .sliceFT a lo hi, nm, vm, e => onE (asSub e) fun p => onE (asSlice p.1.2.1) fun q => onE (sl2 q.1) fun l => chkE a nm vm p.1.1 && chkE lo nm vm l.1 && chkE hi nm vm l.2
  | .glob y, nm, _, e => onE (asName e) fun p => p.1.1 == y && isGlob (nm.lookup p.1.1) && plainName p.1.1
  | .attr a x, nm, vm, e => onE (asAttr e) fun p => p.1.2.1 == x && plainBase p.1.1 && chkE a nm vm p.1.1
  | .umeth o x args, nm, vm, e => onE (asCall e) fun p => onE (asAttr p.1.1) fun q => q.1.2.1 == x && plainBase q.1.1 && q.1.2.2.endLine == p.1.2.2.line && decide (p.1.2.1.length < 20) && chkE o nm vm q.1.1 && chkEs args nm vm p.1.2.1
  | .new k args, nm, vm, e => onE (asCall e) fun p => onE (asName p.1.1) fun x => x.1.1 == k && isGlob (nm.lookup x.1.1) && plainName x.1.1 && chkEs args nm vm p.1.2.1
  | .call f args, nm, vm, e => onE (asCall e) fun p => onE (asName p.1.1) fun x => x.1.1 == f && isGlob (nm.lookup x.1.1) && plainName x.1.1 && noDot f && chkEs args nm vm p.1.2.1
  | .bi b args, nm, vm, e => onE (asCall e) fun p => onE (asName p.1.1) fun x => isGlob (nm.lookup x.1.1) && x.1.1 == b.word && plainName x.1.1 && onE (biArgs nm b p.1.2.1) (fun l => chkEs args nm vm l)
  | .meth o m args, nm, vm, e => onE (asCall e) fun p => onE (asAttr p.1.1) fun q => q.1.2.1 == m.word && plainBase q.1.1 && q.1.2.2.endLine == p.1.2.2.line && decide (p.1.2.1.length < 20) && chkE o nm vm q.1.1 && chkEs args nm vm p.1.2.1
noncomputable def chkEs : PEs → NM → VM → List Expr → Bool
  | .nil, _, _, l => l.isEmpty
  | .cons e es, nm, vm, l => onE l.head? fun a => chkE e nm vm a && chkEs es nm vm l.tail
end

noncomputable def isComp : Expr → Bool
  | .ListComp .. | .SetComp .. | .DictComp .. => true
  | _ => false
noncomputable def isTupE : Expr → Bool
  | .Tuple .. => true
  | _ => false

noncomputable def asAssign (s : Stmt) : Option {q : List Expr × Expr × _ // s = .Assign q.1 q.2.1 q.2.2} := match s with
  | .Assign ts v p => some ⟨(ts, v, p), rfl⟩
  | _ => none
noncomputable def asWhile (s : Stmt) : Option {q : Expr × List Stmt × _ // s = .While q.1 q.2.1 [] q.2.2} := match s with
  | .While t b [] p => some ⟨(t, b, p), rfl⟩
  | _ => none
noncomputable def asExprS (s : Stmt) : Option {q : Expr × _ // s = .Expr q.1 q.2} := match s with
  | .Expr v p => some ⟨(v, p), rfl⟩
  | _ => none
noncomputable def asRet (s : Stmt) : Option {q : Expr × _ // s = .Return (some q.1) q.2} := match s with
  | .Return (some v) p => some ⟨(v, p), rfl⟩
  | _ => none
noncomputable def asIf (s : Stmt) : Option {q : Expr × List Stmt × List Stmt × _ // s = .If q.1 q.2.1 q.2.2.1 q.2.2.2} := match s with
  | .If t b o p => some ⟨(t, b, o, p), rfl⟩
  | _ => none
noncomputable def asFor (s : Stmt) : Option {q : Expr × Expr × List Stmt × _ // s = .For q.1 q.2.1 q.2.2.1 [] q.2.2.2} := match s with
  | .For tg it b [] p => some ⟨(tg, it, b, p), rfl⟩
  | _ => none
mutual
noncomputable def chkS : PS → NM → VM → Stmt → Bool
  | .assign i _ e, nm, vm, s => onE (asAssign s) fun p => onE (one1 p.1.1) fun t => onE (asName t.1) fun x => vm.lookup x.1.1 == some i && isOwn (nm.lookup x.1.1) && chkE e nm vm p.1.2.1
  | .setitem o i _ v, nm, vm, s => onE (asAssign s) fun p => onE (one1 p.1.1) fun t => onE (asSub t.1) fun q => chkE o nm vm q.1.1 && chkE i nm vm q.1.2.1 && chkE v nm vm p.1.2.1
  | .assignT is e, nm, vm, s => onE (asAssign s) fun p => onE (one1 p.1.1) fun t => onE (asTup t.1) fun es => !isTupE p.1.2.1 && chkNames nm vm is es.1.1 && chkE e nm vm p.1.2.1
  | .setattr o x _ v, nm, vm, s => onE (asAssign s) fun p => onE (one1 p.1.1) fun t => onE (asAttr t.1) fun q => q.1.2.1 == x && chkE o nm vm q.1.1 && chkE v nm vm p.1.2.1
  | .whileS t b _, nm, vm, s => onE (asWhile s) fun p => chkE t nm vm p.1.1 && chkSs b nm vm p.1.2.1
  | .expr e, nm, vm, s => onE (asExprS s) fun p => !isComp p.1.1 && chkE e nm vm p.1.1
  | .ret _ e, nm, vm, s => onE (asRet s) fun p => chkE e nm vm p.1.1
  | .ite t b o, nm, vm, s => onE (asIf s) fun p => chkE t nm vm p.1.1 && chkSs b nm vm p.1.2.1 && chkSs o nm vm p.1.2.2.1
  | .forS t it b _, nm, vm, s => onE (asFor s) fun p => chkT nm vm t p.1.1 && chkE it nm vm p.1.2.1 && chkSs b nm vm p.1.2.2.1
noncomputable def chkSs : PSs → NM → VM → List Stmt → Bool
  | .nil, _, _, l => l.isEmpty
  | .cons s ss, nm, vm, l => onE l.head? fun a => chkS s nm vm a && chkSs ss nm vm l.tail
end
theorem fmConst {e : Expr} {f : _ → Bool} (h : onE (asConst e) f = true) : ∃ k a b, e = .Constant k a b := (onE_inv h).elim fun q _ => ⟨_, _, _, q.2⟩
theorem fmName {e : Expr} {f : _ → Bool} (h : onE (asName e) f = true) : ∃ x p, e = .Name x p := (onE_inv h).elim fun q _ => ⟨_, _, q.2⟩
theorem fmBool {e : Expr} {f : _ → Bool} (h : onE (asBool e) f = true) : ∃ o vs p, e = .BoolOp o vs p := (onE_inv h).elim fun q _ => ⟨_, _, _, q.2⟩
theorem fmBin {e : Expr} {f : _ → Bool} (h : onE (asBin e) f = true) : ∃ l o r p, e = .BinOp l o r p := (onE_inv h).elim fun q _ => ⟨_, _, _, _, q.2⟩
theorem fmUn {e : Expr} {f : _ → Bool} (h : onE (asUn e) f = true) : ∃ o x p, e = .UnaryOp o x p := (onE_inv h).elim fun q _ => ⟨_, _, _, q.2⟩
theorem fmCmp {e : Expr} {f : _ → Bool} (h : onE (asCmp e) f = true) : ∃ l o r p, e = .Compare l o r p := (onE_inv h).elim fun q _ => ⟨_, _, _, _, q.2⟩
theorem fmTup {e : Expr} {f : _ → Bool} (h : onE (asTup e) f = true) : ∃ es c p, e = .Tuple es c p := (onE_inv h).elim fun q _ => ⟨_, _, _, q.2⟩
theorem fmLst {e : Expr} {f : _ → Bool} (h : onE (asLst e) f = true) : ∃ es p, e = .List es p := (onE_inv h).elim fun q _ => ⟨_, _, q.2⟩
theorem fmEDict {e : Expr} {f : _ → Bool} (h : onE (asEDict e) f = true) : ∃ p, e = .Dict [] [] p := (onE_inv h).elim fun q _ => ⟨_, q.2⟩
theorem fmSub {e : Expr} {f : _ → Bool} (h : onE (asSub e) f = true) : ∃ v i p, e = .Subscript v i p := (onE_inv h).elim fun q _ => ⟨_, _, _, q.2⟩
theorem fmSlice {e : Expr} {f : _ → Bool} (h : onE (asSlice e) f = true) : ∃ a b c p, e = .Slice a b c p := (onE_inv h).elim fun q _ => ⟨_, _, _, _, q.2⟩
theorem fmComp {e : Expr} {f : _ → Bool} (h : onE (asComp e) f = true) : ∃ e' gs sc p, e = .ListComp e' gs sc p := (onE_inv h).elim fun q _ => ⟨_, _, _, _, q.2⟩
theorem fmAttr {e : Expr} {f : _ → Bool} (h : onE (asAttr e) f = true) : ∃ v x p, e = .Attribute v x p := (onE_inv h).elim fun q _ => ⟨_, _, _, q.2⟩
theorem fmCall {e : Expr} {f : _ → Bool} (h : onE (asCall e) f = true) : ∃ g as p, e = .Call g as [] p := (onE_inv h).elim fun q _ => ⟨_, _, _, q.2⟩
theorem fmAssign {s : Stmt} {f : _ → Bool} (h : onE (asAssign s) f = true) : ∃ ts v p, s = .Assign ts v p := (onE_inv h).elim fun q _ => ⟨_, _, _, q.2⟩
theorem fmWhile {s : Stmt} {f : _ → Bool} (h : onE (asWhile s) f = true) : ∃ t b p, s = .While t b [] p := (onE_inv h).elim fun q _ => ⟨_, _, _, q.2⟩
theorem fmExprS {s : Stmt} {f : _ → Bool} (h : onE (asExprS s) f = true) : ∃ v p, s = .Expr v p := (onE_inv h).elim fun q _ => ⟨_, _, q.2⟩
theorem fmRet {s : Stmt} {f : _ → Bool} (h : onE (asRet s) f = true) : ∃ v p, s = .Return (some v) p := (onE_inv h).elim fun q _ => ⟨_, _, q.2⟩
theorem fmIf {s : Stmt} {f : _ → Bool} (h : onE (asIf s) f = true) : ∃ t b o p, s = .If t b o p := (onE_inv h).elim fun q _ => ⟨_, _, _, _, q.2⟩
theorem fmFor {s : Stmt} {f : _ → Bool} (h : onE (asFor s) f = true) : ∃ tg it b p, s = .For tg it b [] p := (onE_inv h).elim fun q _ => ⟨_, _, _, _, q.2⟩
theorem fm1 {α : Type} {l : List α} {f : _ → Bool} (h : onE (one1 l) f = true) : ∃ a, l = [a] := (onE_inv h).elim fun q _ => ⟨_, q.2⟩
end Mine

set_option autoImplicit false
set_option backward.match.sparseCases true
namespace Mine
open PySem

/-- what does not change over a law's run -/
structure Fix where
  prog : Program
  w : World
  B : Heap
  mg : Str → Option Value
  mb : Str → Option Value
  cls : Str → Option CI

noncomputable abbrev Fix.VR (C : Fix) (g : Cfg) (h : Heap) := Mine.VR C.prog C.w g h
noncomputable abbrev Fix.VRs (C : Fix) (g : Cfg) (h : Heap) := Mine.VRs C.prog C.w g h
noncomputable abbrev Fix.VRd (C : Fix) (g : Cfg) (h : Heap) := Mine.VRd C.prog C.w g h
noncomputable abbrev Fix.OR (C : Fix) (g : Cfg) (h : Heap) := Mine.OR C.prog C.w g h C.cls

/-- the relation, with the base frozen -/
structure Fix.Rel (C : Fix) (σ : AH) (g : Cfg) (h : Heap) : Prop where
  rel : Mine.Rel C.prog C.w g h C.cls C.B σ
  bas : ∀ b, (C.B.get? b).isSome = true → g.Φ b
  sys : (C.B.get? sysModules).isSome = true

variable {C : Fix} {σ : AH} {g g' : Cfg} {h h' : Heap} {s s' : Shared} {own : Addr → Prop}

/-- own things are neither tracked nor frozen -/
noncomputable def Off (own : Addr → Prop) (g : Cfg) : Prop := ∀ b, own b → b ∉ g.μ ∧ ¬ g.Φ b
theorem Off.none : Off noOwn g := fun _ h => h.elim

theorem Fix.Rel.fresh (R : C.Rel σ g h) {a : Addr} (ha : h.get? a = none) : a ∉ g.μ ∧ ¬ g.Φ a := by
  refine ⟨fun hm => ?_, fun hf => ?_⟩
  · obtain ⟨i, hi⟩ := List.getElem?_of_mem hm
    have hlt : i < σ.length := R.rel.len ▸ (List.getElem?_eq_some_iff.mp hi).1
    have ho := R.rel.objs i σ[i] a (by simp [hlt]) hi
    cases hx : σ[i] with
    | list b l => rw [hx] at ho; obtain ⟨_, vs, ⟨n, e⟩, _⟩ := ho; rw [ha] at e; cases e
    | dict b l => rw [hx] at ho; obtain ⟨_, kvs, ⟨o, es, ep, e, _⟩, _⟩ := ho; rw [ha] at e; cases e
    | inst k d => rw [hx] at ho; obtain ⟨_, _, _, _, _, ⟨o, e, _⟩⟩ := ho; rw [ha] at e; cases e
    | ns l => rw [hx] at ho; obtain ⟨_, _, ⟨o, _, _, e, _⟩, _⟩ := ho; rw [ha] at e; cases e
  · have := R.rel.live a hf; rw [ha] at this; cases this
theorem Fix.Rel.base_none (R : C.Rel σ g h) {a : Addr} (ha : ¬ g.Φ a) : C.B.get? a = none := by
  cases hq : C.B.get? a with
  | none => rfl
  | some o => exact absurd (R.bas a (isSome_of hq)) ha

theorem Fix.Rel.notSys (R : C.Rel σ g h) {a : Addr} (ha : ¬ g.Φ a) : a ≠ sysModules := fun e => ha (e ▸ R.bas _ R.sys)

theorem Fix.Rel.new (R : C.Rel σ g s.heap) : s.heap.objs.size ∉ g.μ ∧ ¬ g.Φ s.heap.objs.size := R.fresh (by
  cases hq : s.heap.get? s.heap.objs.size with
  | none => rfl
  | some o => exact absurd (Heap.lt_size hq) (Nat.lt_irrefl _))

theorem get?_size (h : Heap) : h.get? h.objs.size = none := by
  cases hq : h.get? h.objs.size with
  | none => rfl
  | some o => exact absurd (Heap.lt_size hq) (Nat.lt_irrefl _)

/-- the tracked and the frozen things are kept -/
noncomputable def Kept (g : Cfg) (h h' : Heap) : Prop := ∀ b o, h.get? b = some o → (b ∈ g.μ ∨ g.Φ b) → h'.get? b = some o
theorem Kept.of_all (hk : ∀ b o, h.get? b = some o → h'.get? b = some o) : Kept g h h' := fun b o e _ => hk b o e
theorem Kept.of_but {a : Addr} (hk : ∀ b o, b ≠ a → h.get? b = some o → h'.get? b = some o) (ha : a ∉ g.μ ∧ ¬ g.Φ a) : Kept g h h' := fun b o e hb => hk b o (fun q => by subst q; exact hb.elim ha.1 ha.2) e

theorem VR_kept (hk : Kept g h h') {v : PV} {x : Value} (hv : C.VR g h v x) : C.VR g h' v x := hv.mono (List.prefix_refl _) (fun _ q => q) fun a o ha e => hk a o e (.inr ha)
theorem VRs_kept (hk : Kept g h h') {v : List PV} {x : List Value} (hv : C.VRs g h v x) : C.VRs g h' v x := hv.mono (List.prefix_refl _) (fun _ q => q) fun a o ha e => hk a o e (.inr ha)
theorem VRd_kept (hk : Kept g h h') {v : List (Str × PV)} {x : List (Str × Value)} (hv : C.VRd g h v x) : C.VRd g h' v x := hv.mono (List.prefix_refl _) (fun _ q => q) fun a o ha e => hk a o e (.inr ha)

theorem OR_kept (hk : Kept g h h') {o : AObj} {a : Addr} (ha : a ∈ g.μ) (ho : C.OR g h o a) : C.OR g h' o a := by
  cases o with
  | list b l => obtain ⟨hb, vs, ⟨n, e⟩, hv⟩ := ho; exact ⟨hb, vs, ⟨n, hk _ _ e (.inl ha)⟩, VRs_kept (C := C) hk hv⟩
  | dict b l => obtain ⟨hb, kvs, ⟨ob, es, ep, e, r⟩, hv⟩ := ho; exact ⟨hb, kvs, ⟨ob, es, ep, hk _ _ e (.inl ha), r⟩, VRd_kept (C := C) hk hv⟩
  | inst k d => obtain ⟨hl, I, dx, h1, h2, ⟨ob, e, r⟩⟩ := ho; exact ⟨hl, I, dx, h1, h2, ob, hk _ _ e (.inl ha), r⟩
  | ns l => obtain ⟨hl, m, ⟨ob, es, ep, e, r⟩, hv⟩ := ho; exact ⟨hl, m, ⟨ob, es, ep, hk _ _ e (.inl ha), r⟩, hv.mono (List.prefix_refl _) (fun _ q => q) fun a o ha e => hk a o e (.inr ha)⟩

theorem Fix.Rel.kept (R : C.Rel σ g h) (hk : Kept g h h') : C.Rel σ g h' where
  rel :=
    { len := R.rel.len, nodup := R.rel.nodup, disj := R.rel.disj, lkμ := R.rel.lkμ
      live := fun a ha => by
        obtain ⟨o, ho⟩ := Option.isSome_iff_exists.mp (R.rel.live a ha)
        rw [hk a o ho (.inr ha)]; rfl
      base := fun b o e => hk b o (R.rel.base b o e) (.inr (R.bas b (isSome_of e)))
      baseμ := R.rel.baseμ
      objs := fun i o a h1 h2 => OR_kept (C := C) hk (List.mem_of_getElem? h2) (R.rel.objs i o a h1 h2) }
  bas := R.bas
  sys := R.sys

/-- one more frozen thing -/
noncomputable def Cfg.frz (g : Cfg) (a : Addr) : Cfg := ⟨g.μ, fun b => g.Φ b ∨ b = a, g.lk⟩
/-- one more tracked thing -/
noncomputable def Cfg.trk (g : Cfg) (a : Addr) : Cfg := ⟨g.μ ++ [a], g.Φ, g.lk⟩

theorem frz_sub {a : Addr} : ∀ b, g.Φ b → (g.frz a).Φ b := fun _ q => Or.inl q
theorem frz_pre {a : Addr} : g.μ <+: (g.frz a).μ := List.prefix_refl _
theorem trk_pre {a : Addr} : g.μ <+: (g.trk a).μ := List.prefix_append ..
theorem trk_sub {a : Addr} : ∀ b, g.Φ b → (g.trk a).Φ b := fun _ q => q
theorem VRs_frz {a : Addr} {v : List PV} {x : List Value} (hv : C.VRs g h v x) : C.VRs (g.frz a) h v x := hv.mono frz_pre frz_sub fun _ _ _ e => e
theorem VRd_frz {a : Addr} {v : List (Str × PV)} {x : List (Str × Value)} (hv : C.VRd g h v x) : C.VRd (g.frz a) h v x := hv.mono frz_pre frz_sub fun _ _ _ e => e
theorem OR_mono (hp : g.μ <+: g'.μ) (hs : ∀ a, g.Φ a → g'.Φ a) (hlk : g'.lk = g.lk) {o : AObj} {a : Addr} (ho : C.OR g h o a) : C.OR g' h o a := by
  cases o with
  | list b l => obtain ⟨hb, vs, e, hv⟩ := ho; exact ⟨hlk ▸ hb, vs, e, hv.mono hp hs fun _ _ _ e => e⟩
  | dict b l => obtain ⟨hb, kvs, e, hv⟩ := ho; exact ⟨hlk ▸ hb, kvs, e, hv.mono hp hs fun _ _ _ e => e⟩
  | inst k d =>
    obtain ⟨hl, I, dx, h1, h2, e⟩ := ho
    refine ⟨hlk ▸ hl, I, dx, h1, ?_, e⟩
    obtain ⟨t, ht⟩ := hp
    rw [← ht, List.getElem?_append_left (List.getElem?_eq_some_iff.mp h2).1]; exact h2
  | ns l => obtain ⟨hl, m, e, hv⟩ := ho; exact ⟨hlk ▸ hl, m, e, hv.mono hp hs fun _ _ _ e => e⟩

theorem Fix.Rel.frz (R : C.Rel σ g h) {a : Addr} (hn : a ∉ g.μ) (hl : (h.get? a).isSome = true) : C.Rel σ (g.frz a) h where
  rel :=
    { len := R.rel.len, nodup := R.rel.nodup, lkμ := R.rel.lkμ
      disj := fun b hb q => q.elim (R.rel.disj b hb) fun e => hn (e ▸ hb)
      live := fun b hb => hb.elim (R.rel.live b) fun e => e ▸ hl
      base := R.rel.base
      baseμ := R.rel.baseμ
      objs := fun i o b h1 h2 => OR_mono (C := C) frz_pre frz_sub rfl (R.rel.objs i o b h1 h2) }
  bas := fun b hb => .inl (R.bas b hb)
  sys := R.sys

theorem Fix.Rel.trk (R : C.Rel σ g h) {a : Addr} {o : AObj} (hn : a ∉ g.μ) (hf : ¬ g.Φ a) (ho : C.OR g h o a) : C.Rel (σ ++ [o]) (g.trk a) h where
  rel :=
    { len := by simp [Cfg.trk, R.rel.len]
      lkμ := fun b hb => List.mem_append_left _ (R.rel.lkμ b hb)
      nodup := by
        show (g.μ ++ [a]).Nodup
        rw [List.nodup_append]
        exact ⟨R.rel.nodup, by simp, fun b hb c hc => by rw [List.mem_singleton.mp hc]; rintro rfl; exact hn hb⟩
      disj := fun b hb => (List.mem_append.mp hb).elim (R.rel.disj b) fun q => (List.mem_singleton.mp q) ▸ hf
      live := R.rel.live
      base := R.rel.base
      baseμ := fun b hb => (List.mem_append.mp hb).elim (R.rel.baseμ b) fun q => (List.mem_singleton.mp q) ▸ R.base_none hf
      objs := fun i o' b h1 h2 => by
        have hlen := R.rel.len
        by_cases hi : i < σ.length
        · have h1' : σ[i]? = some o' := by rwa [List.getElem?_append_left hi] at h1
          have h2' : g.μ[i]? = some b := by
            have : (g.μ ++ [a])[i]? = some b := h2
            rwa [List.getElem?_append_left (by exact ar7 hlen hi)] at this
          exact OR_mono (C := C) trk_pre trk_sub rfl (R.rel.objs i o' b h1' h2')
        · have hlt := (List.getElem?_eq_some_iff.mp h1).1
          have hi' : i = σ.length := by simp at hlt; exact ar6 hi hlt
          subst hi'
          have e1 : o' = o := by simpa using h1.symm
          have e2 : b = a := by
            have : (g.μ ++ [a])[σ.length]? = some b := h2
            rw [← hlen] at this; simpa using this.symm
          rw [e1, e2]
          exact OR_mono (C := C) trk_pre trk_sub rfl ho }
  bas := R.bas
  sys := R.sys

/-- a tracked thing changed -/
theorem Fix.Rel.set (R : C.Rel σ g h) {i : Nat} {a : Addr} {o : AObj} (hi : g.μ[i]? = some a) (hk : ∀ b ob, b ≠ a → h.get? b = some ob → h'.get? b = some ob) (ho : C.OR g h' o a) : C.Rel (σ.set i o) g h' := by
  have ham : a ∈ g.μ := List.mem_of_getElem? hi
  have hfa : ¬ g.Φ a := R.rel.disj a ham
  have kΦ : ∀ b ob, g.Φ b → h.get? b = some ob → h'.get? b = some ob := fun b ob hb e => hk b ob (fun q => hfa (q ▸ hb)) e
  refine ⟨{ len := by rw [List.length_set]; exact R.rel.len, nodup := R.rel.nodup, disj := R.rel.disj, lkμ := R.rel.lkμ, live := fun b hb => ?_, base := fun b ob e => kΦ b ob (R.bas b (isSome_of e)) (R.rel.base b ob e), baseμ := R.rel.baseμ, objs := fun j o' b h1 h2 => ?_ }, R.bas, R.sys⟩
  · obtain ⟨ob, e⟩ := Option.isSome_iff_exists.mp (R.rel.live b hb)
    rw [kΦ b ob hb e]; rfl
  · by_cases hj : j = i
    · subst hj
      rw [hi] at h2; cases h2
      have hlt : j < σ.length := R.rel.len ▸ (List.getElem?_eq_some_iff.mp hi).1
      rw [List.getElem?_set_self hlt] at h1
      cases h1; exact ho
    · rw [List.getElem?_set_ne (Ne.symm hj)] at h1
      have hba : b ≠ a := fun q => hj (by
        subst q
        have l1 := (List.getElem?_eq_some_iff.mp h2).1
        have l2 := (List.getElem?_eq_some_iff.mp hi).1
        exact (List.getElem?_inj l1 R.rel.nodup).mp (h2.trans hi.symm))
      have old := R.rel.objs j o' b h1 h2
      cases o' with
      | list b l => obtain ⟨hb, vs, ⟨n, e⟩, hv⟩ := old; exact ⟨hb, vs, ⟨n, hk _ _ hba e⟩, hv.mono (List.prefix_refl _) (fun _ q => q) fun c oc hc e => kΦ c oc hc e⟩
      | dict b l => obtain ⟨hb, kvs, ⟨ob, es, ep, e, r⟩, hv⟩ := old; exact ⟨hb, kvs, ⟨ob, es, ep, hk _ _ hba e, r⟩, hv.mono (List.prefix_refl _) (fun _ q => q) fun c oc hc e => kΦ c oc hc e⟩
      | inst k d => obtain ⟨hl, I, dx, h1, h2, ⟨ob, e, r⟩⟩ := old; exact ⟨hl, I, dx, h1, h2, ob, hk _ _ hba e, r⟩
      | ns l => obtain ⟨hl, m, ⟨ob, es, ep, e, r⟩, hv⟩ := old; exact ⟨hl, m, ⟨ob, es, ep, hk _ _ hba e, r⟩, hv.mono (List.prefix_refl _) (fun _ q => q) fun c oc hc e => kΦ c oc hc e⟩

/-- an instance's attributes changed -/
theorem Fix.Rel.set2 (R : C.Rel σ g h) {i d : Nat} {a dx : Addr} {o : AObj} {k : Str} (hs : σ[i]? = some (.inst k d)) (hi : g.μ[i]? = some a) (hd : g.μ[d]? = some dx) (hk : ∀ b ob, b ≠ a → b ≠ dx → h.get? b = some ob → h'.get? b = some ob)
    (hoi : C.OR g h' (.inst k d) a) (ho : C.OR g h' o dx) : C.Rel (σ.set d o) g h' := by
  have hfa : ¬ g.Φ a := R.rel.disj a (List.mem_of_getElem? hi)
  have hfd : ¬ g.Φ dx := R.rel.disj dx (List.mem_of_getElem? hd)
  have kΦ : ∀ b ob, g.Φ b → h.get? b = some ob → h'.get? b = some ob := fun b ob hb e => hk b ob (fun q => hfa (q ▸ hb)) (fun q => hfd (q ▸ hb)) e
  have inj : ∀ {j j' : Nat} {b : Addr}, g.μ[j]? = some b → g.μ[j']? = some b → j = j' := fun {j j' b} h1 h2 =>
    (List.getElem?_inj (List.getElem?_eq_some_iff.mp h1).1 R.rel.nodup).mp (h1.trans h2.symm)
  refine ⟨{ len := by rw [List.length_set]; exact R.rel.len, nodup := R.rel.nodup, disj := R.rel.disj, lkμ := R.rel.lkμ, live := fun b hb => ?_, base := fun b ob e => kΦ b ob (R.bas b (isSome_of e)) (R.rel.base b ob e), baseμ := R.rel.baseμ, objs := fun j o' b h1 h2 => ?_ }, R.bas, R.sys⟩
  · obtain ⟨ob, e⟩ := Option.isSome_iff_exists.mp (R.rel.live b hb)
    rw [kΦ b ob hb e]; rfl
  · by_cases hj : j = d
    · subst hj
      rw [hd] at h2; cases h2
      have hlt : j < σ.length := R.rel.len ▸ (List.getElem?_eq_some_iff.mp hd).1
      rw [List.getElem?_set_self hlt] at h1
      cases h1; exact ho
    · rw [List.getElem?_set_ne (Ne.symm hj)] at h1
      by_cases hji : j = i
      · subst hji
        rw [hi] at h2; cases h2
        rw [hs] at h1; cases h1
        exact hoi
      · have hba : b ≠ a := fun q => hji (inj h2 (q ▸ hi))
        have hbd : b ≠ dx := fun q => hj (inj h2 (q ▸ hd))
        have old := R.rel.objs j o' b h1 h2
        cases o' with
        | list b l => obtain ⟨hb, vs, ⟨n, e⟩, hv⟩ := old; exact ⟨hb, vs, ⟨n, hk _ _ hba hbd e⟩, hv.mono (List.prefix_refl _) (fun _ q => q) fun c oc hc e => kΦ c oc hc e⟩
        | dict b l => obtain ⟨hb, kvs, ⟨ob, es, ep, e, r⟩, hv⟩ := old; exact ⟨hb, kvs, ⟨ob, es, ep, hk _ _ hba hbd e, r⟩, hv.mono (List.prefix_refl _) (fun _ q => q) fun c oc hc e => kΦ c oc hc e⟩
        | inst k d => obtain ⟨hl, I, dx, h1, h2, ⟨ob, e, r⟩⟩ := old; exact ⟨hl, I, dx, h1, h2, ob, hk _ _ hba hbd e, r⟩
        | ns l => obtain ⟨hl, m, ⟨ob, es, ep, e, r⟩, hv⟩ := old; exact ⟨hl, m, ⟨ob, es, ep, hk _ _ hba hbd e, r⟩, hv.mono (List.prefix_refl _) (fun _ q => q) fun c oc hc e => kΦ c oc hc e⟩

/-- VR over a step -/
theorem VR_ext (R : C.Rel σ g s.heap) (e : Ext own g s g' s') (hoff : Off own g) {v : PV} {x : Value} (hv : C.VR g s.heap v x) : C.VR g' s'.heap v x :=
  hv.mono e.pre e.sub fun a o ha ho => e.keep a o ho (.inl fun q => R.rel.disj a q ha) fun q => (hoff a q).2 ha
theorem VRs_ext (R : C.Rel σ g s.heap) (e : Ext own g s g' s') (hoff : Off own g) {v : List PV} {x : List Value} (hv : C.VRs g s.heap v x) : C.VRs g' s'.heap v x :=
  hv.mono e.pre e.sub fun a o ha ho => e.keep a o ho (.inl fun q => R.rel.disj a q ha) fun q => (hoff a q).2 ha

/-- what a value's shape says -/
noncomputable def VRi (C : Fix) (g : Cfg) (h : Heap) : PV → Value → Prop
  | .none, x => x = .none
  | .bool b, x => x = .bool b
  | .int i, x => ∃ t, x = .int i t
  | .str y, x => ∃ t, x = .str y t
  | .tup l, x => ∃ a vs, x = .ref a ∧ IsTupX h a vs ∧ C.VRs g h l vs.toList
  | .lst l, x => ∃ a vs, x = .ref a ∧ IsListX h a vs ∧ C.VRs g h l vs.toList
  | .dct l, x => ∃ a kvs, x = .ref a ∧ a ≠ sysModules ∧ h.DictOf (strKind C.prog C.w) a kvs ∧ C.VRd g h l kvs
  | .rng lo hi, x => ∃ a, x = .ref a ∧ IsRng h a lo hi
  | .ref i, x => ∃ a, x = .ref a ∧ g.μ[i]? = some a
  | .undef, _ => True
theorem VR_inv {v : PV} {x : Value} (hv : C.VR g h v x) : VRi C g h v x := by
  cases hv with
  | none => exact rfl
  | bool => exact rfl
  | int i t => exact ⟨t, rfl⟩
  | str y t => exact ⟨t, rfl⟩
  | tup _ b c => exact ⟨_, _, rfl, b, c⟩
  | lst _ b c => exact ⟨_, _, rfl, b, c⟩
  | dct _ b c d => exact ⟨_, _, rfl, b, c, d⟩
  | rng _ b => exact ⟨_, rfl, b⟩
  | ref b => exact ⟨_, rfl, b⟩
theorem deref_sound (R : C.Rel σ g h) {v : PV} {x : Value} (hv : C.VR g h v x) : VRi C g h (deref σ v) x := by
  cases v with
  | ref i =>
    obtain ⟨a, rfl, hi⟩ := VR_inv hv
    show VRi C g h (derefO σ[i]?) _
    cases ho : σ[i]? with
    | none => trivial
    | some o =>
      have hor := R.rel.objs i o a ho hi
      cases o with
      | list b l => obtain ⟨_, vs, h1, h2⟩ := hor; exact ⟨a, vs, rfl, h1, h2⟩
      | dict b l => obtain ⟨_, kvs, h1, h2⟩ := hor; exact ⟨a, kvs, rfl, R.notSys (R.rel.disj a (List.mem_of_getElem? hi)), h1, h2⟩
      | inst k d => trivial
      | ns l => trivial
  | _ => exact VR_inv hv
theorem intOf_eq {w : PV} {i : Int} (h : intOf w = some i) : w = .int i := by cases w <;> first | exact congrArg PV.int (Option.some.inj h) | exact nomatch h
theorem strOf_eq {w : PV} {i : Str} (h : strOf w = some i) : w = .str i := by cases w <;> first | exact congrArg PV.str (Option.some.inj h) | exact nomatch h
theorem lstOf_eq {w : PV} {i : List PV} (h : lstOf w = some i) : w = .lst i := by cases w <;> first | exact congrArg PV.lst (Option.some.inj h) | exact nomatch h
theorem boolOf_eq {w : PV} {i : Bool} (h : boolOf w = some i) : w = .bool i := by cases w <;> first | exact congrArg PV.bool (Option.some.inj h) | exact nomatch h
theorem dctOf_eq {w : PV} {i : List (Str × PV)} (h : dctOf w = some i) : w = .dct i := by cases w <;> first | exact congrArg PV.dct (Option.some.inj h) | exact nomatch h
theorem refOf_eq {w : PV} {i : Nat} (h : refOf w = some i) : w = .ref i := by cases w <;> first | exact congrArg PV.ref (Option.some.inj h) | exact nomatch h
theorem seqOf_eq {w : PV} {i : List PV} (h : seqOf w = some i) : w = .tup i ∨ w = .lst i := by cases w <;> first | exact .inl (congrArg PV.tup (Option.some.inj h)) | exact .inr (congrArg PV.lst (Option.some.inj h)) | exact nomatch h
theorem int_vr {v : PV} {x : Value} {i : Int} (e : intOf v = some i) (hv : C.VR g h v x) : ∃ t, x = .int i t := by rw [intOf_eq e] at hv; exact VR_inv hv
theorem str_vr {v : PV} {x : Value} {i : Str} (e : strOf v = some i) (hv : C.VR g h v x) : ∃ t, x = .str i t := by rw [strOf_eq e] at hv; exact VR_inv hv
theorem two_elim {α β γ : Type} {f : PV → Option α} {g : PV → Option β} {a b : PV} {h : α → β → Option γ} {k : Option γ} (P : Option γ → Prop) (hp : P (both f g a b h k)) : (∃ x y, f a = some x ∧ g b = some y ∧ P (h x y)) ∨ P k := by
  unfold both at hp
  cases h1 : f a with
  | none => rw [h1] at hp; exact .inr hp
  | some x =>
    cases h2 : g b with
    | none => rw [h1, h2] at hp; exact .inr hp
    | some y => rw [h1, h2] at hp; exact .inl ⟨x, y, rfl, rfl, hp⟩
theorem bind_elim {α γ : Type} {o : Option α} {f : α → Option γ} (P : Option γ → Prop) (hn : ¬ P none) (hp : P (o.bind f)) : ∃ x, o = some x ∧ P (f x) := by
  cases o with
  | none => exact absurd hp hn
  | some x => exact ⟨x, rfl, hp⟩

/-- steps -/
theorem Ext.heap {tk : Nat} {dr : Drawn} (hk : ∀ b o, s.heap.get? b = some o → (b ∉ g.μ ∨ g.lk b) → ¬ own b → h'.get? b = some o) (hl : ∀ b, (s.heap.get? b).isSome = true → (h'.get? b).isSome = true) :
    Ext own g s g { s with heap := h', drawn := dr, toks := tk } :=
  ⟨List.prefix_refl _, fun _ q => q, fun _ q => .inl q, fun _ q => .inl q, rfl, hk, hl, rfl, rfl⟩
theorem Ext.all {tk : Nat} {dr : Drawn} (hk : ∀ b o, s.heap.get? b = some o → h'.get? b = some o) : Ext own g s g { s with heap := h', drawn := dr, toks := tk } :=
  .heap (fun b o e _ _ => hk b o e) fun b hb => by obtain ⟨o, ho⟩ := Option.isSome_iff_exists.mp hb; rw [hk b o ho]; rfl
theorem Ext.frz {a : Addr} (e : Ext own g s g' s') (ha : s.heap.get? a = none) : Ext own g s (g'.frz a) s' :=
  { e with sub := fun b hb => .inl (e.sub b hb), newΦ := fun b hb => hb.elim (e.newΦ b) fun q => .inr (q ▸ ha) }
theorem Ext.trk {a : Addr} (e : Ext own g s g' s') (ha : s.heap.get? a = none) : Ext own g s (g'.trk a) s' :=
  { e with
    pre := e.pre.trans (List.prefix_append ..)
    newμ := fun b hb => (List.mem_append.mp hb).elim (e.newμ b) fun q => .inr ((List.mem_singleton.mp q) ▸ ha) }

end Mine

set_option autoImplicit false
set_option backward.match.sparseCases true
namespace Mine
open PySem PyProof.Rows

/-- where the walk stands: no handled exception, room for frames -/
structure AOK (A : Around) (d : Nat) : Prop where
  hand : A.handled = none
  depth : A.depth + 2 * d < 890
  units : A.units + 12 * d + 700 < cLine
  fr : ∃ env l, A.frames = some (env :: l) ∧ env.scope.isGenerator = false ∧ env.scope.isCoroutine = false ∧ env.builtins = builtinsNs ∧ env.globals = mainGlobals

/-- what holds of the base -/
structure Fix.OK (C : Fix) : Prop where
  g : C.B.Ns mainGlobals C.mg
  b : C.B.Ns builtinsNs C.mb
  nolimit : C.B.NoLimit
  nodigits : ∃ mc, C.B.Ns cStatics mc ∧ mc "sys.int_max_str_digits" = none
  builtins : ∀ x : Str, x ≠ "__name__" → C.mb x = bootBuiltins x
  seer : C.B.NoSeer
  tree : C.prog.given.tree = none

variable {C : Fix} {σ : AH} {g g' : Cfg} {h h' : Heap} {s s' : Shared} {own : Addr → Prop} {A : Around} {d : Nat}
  {Q : Value → Shared → Prop} {E : Value → Shared → Prop}

noncomputable def FrsR (C : Fix) (g : Cfg) (h : Heap) : Frs → Addr → Prop
  | .list l, a => ∃ vs, IsListX h a vs ∧ C.VRs g h l vs.toList
  | .dict l, a => ∃ kvs, h.DictOf (strKind C.prog C.w) a kvs ∧ C.VRd g h l kvs

/-- a made value x at s' for o, from s on -/
noncomputable def OutR (C : Fix) (s : Shared) (g' : Cfg) (s' : Shared) : Out → Value → Prop
  | .v v, x => C.VR g' s'.heap v x
  | .f f, x => ∃ a, x = .ref a ∧ s.heap.get? a = none ∧ a ∉ g'.μ ∧ ¬ g'.Φ a ∧ FrsR C g' s'.heap f a

noncomputable def PostO (C : Fix) (σ : AH) (g : Cfg) (s : Shared) (o : Option Out) (Q : Value → Shared → Prop) : Prop := match o with
  | none => False
  | some o => ∀ g' s' x, Ext noOwn g s g' s' → C.Rel σ g' s'.heap → OutR C s g' s' o x → Q x s'

noncomputable def PostE (C : Fix) (own : Addr → Prop) (g : Cfg) (s : Shared) (r : Res PV) (Q E : Value → Shared → Prop) : Prop := match r with
  | .ok v σ' => ∀ g' s' x, Ext own g s g' s' → C.Rel σ' g' s'.heap → C.VR g' s'.heap v x → Q x s'
  | .exc _ _ => False
  | .bad => False

theorem PostE.shift {r : Res PV} (e : Ext own g s g' s') (h : PostE C own g s r Q E) : PostE C own g' s' r Q E := by
  cases r with
  | ok v σ' => exact fun g2 s2 x e2 R hv => h g2 s2 x (e.trans e2) R hv
  | exc => exact h
  | bad => exact h

theorem FrsR.ob {f : Frs} {a : Addr} (hlk : ¬ g.lk a) (h : FrsR C g s.heap f a) : C.OR g s.heap f.obj a := by
  cases f <;> exact ⟨⟨fun q => (by cases q), fun q => (hlk q).elim⟩, h⟩
theorem FrsR.live {f : Frs} {a : Addr} (h : FrsR C g s.heap f a) : (s.heap.get? a).isSome = true := by
  cases f with
  | list l => obtain ⟨vs, ⟨n, e⟩, _⟩ := h; exact isSome_of e
  | dict l => obtain ⟨kvs, ⟨o, es, ep, e, _⟩, _⟩ := h; exact isSome_of e
theorem FrsR.vr {f : Frs} {a : Addr} (hm : a ≠ sysModules) (h : FrsR C g s.heap f a) : C.VR (g.frz a) s.heap f.val (.ref a) := by
  cases f with
  | list l => obtain ⟨vs, e, hv⟩ := h; exact .lst (.inr rfl) e (VRs_frz (C := C) hv)
  | dict l => obtain ⟨kvs, e, hv⟩ := h; exact .dct (.inr rfl) hm e (VRd_frz (C := C) hv)

theorem box_sound {m : Nat} {f : Frs} (hp : PostE C noOwn g s (box m f σ) Q E) {a : Addr} (e : Ext noOwn g s g' s') (R : C.Rel σ g' s'.heap) (ha : s.heap.get? a = none) (hn : a ∉ g'.μ) (hf : ¬ g'.Φ a) (hr : FrsR C g' s'.heap f a) : Q (.ref a) s' := by
  cases m with
  | zero => exact hp _ s' _ (e.frz ha) (R.frz hn hr.live) (hr.vr (R.notSys hf))
  | succ m =>
    refine hp _ s' _ (e.trk ha) (R.trk hn hf (hr.ob fun q => hn (R.rel.lkμ _ q))) (.ref ?_)
    show (g'.μ ++ [a])[σ.length]? = some a
    rw [← R.rel.len]; simp

theorem fin_sound {m : Nat} {o : Option Out} (hp : PostE C noOwn g s (fin m o σ) Q E) : PostO C σ g s o Q := by
  cases o with
  | none => exact hp
  | some o => cases o with
    | v v => exact hp
    | f f =>
      rintro g' s' x e R ⟨a, rfl, ha, hn, hf, hr⟩
      exact box_sound hp e R ha hn hf hr

/-- a value that is no heap object: any tokens -/
theorem PostO.val {v : PV} (hp : PostO C σ g s (some (.v v)) Q) (R : C.Rel σ g s.heap) {x : Value} {tk : Nat} (hv : C.VR g s.heap v x) : Q x { s with toks := tk } :=
  hp g _ x (Ext.toks (Ext.refl g s)) R hv
/-- a new object, frozen -/
theorem PostO.push {v : PV} (hp : PostO C σ g s (some (.v v)) Q) (R : C.Rel σ g s.heap) {o : Obj} {tk : Nat}
    (hv : C.VR (g.frz s.heap.objs.size) (s.heap.push o) v (.ref s.heap.objs.size)) (ho : o.isFreed = false := by rfl) : Q (.ref s.heap.objs.size) { s with heap := s.heap.push o, toks := tk } := by
  have hk : ∀ b ob, s.heap.get? b = some ob → (s.heap.push o).get? b = some ob := fun b ob e => Heap.get?_push_of_some o e
  refine hp (g.frz s.heap.objs.size) _ _ ((Ext.all hk).frz (get?_size _)) ((R.kept (.of_all hk)).frz R.new.1 ?_) hv
  show ((s.heap.push o).get? s.heap.objs.size).isSome = true
  rw [Heap.get?_push_size _ ho]; rfl
/-- a new object, fresh -/
theorem PostO.made {f : Frs} (hp : PostO C σ g s (some (.f f)) Q) (R : C.Rel σ g s.heap) {o : Obj} {tk : Nat} (hr : FrsR C g (s.heap.push o) f s.heap.objs.size) : Q (.ref s.heap.objs.size) { s with heap := s.heap.push o, toks := tk } := by
  have hk : ∀ b ob, s.heap.get? b = some ob → (s.heap.push o).get? b = some ob := fun b ob e => Heap.get?_push_of_some o e
  exact hp g _ _ (Ext.all hk) (R.kept (.of_all hk)) ⟨_, rfl, get?_size _, R.new.1, R.new.2, hr⟩

/-- reading a list, tracked or frozen -/
theorem asList_sound (R : C.Rel σ g h) {v : PV} {l : List PV} {x : Value} (hl : asList σ v = some l) (hv : C.VR g h v x) : ∃ a vs, x = .ref a ∧ h.IsList a vs ∧ C.VRs g h l vs.toList := by
  have hd := deref_sound R hv
  rw [lstOf_eq hl] at hd
  obtain ⟨a, vs, e, h1, h2⟩ := hd
  exact ⟨a, vs, e, isList_of h1, h2⟩

theorem mulStr_sound {x : Str} {n : Int} {t u : Tok} (h1 : n ≤ 1000) (h2 : -1000 ≤ n) (h3 : x.length ≤ 1000) (hq : ∀ t' tk, Q (.str (repStr x n) t') { s with toks := tk }) :
    wpAny (model C.prog C.w) A (binaryOp .Mult (.str x t) (.int n u)) Q E s := by
  refine P.mul_str ?_ (fun h4 _ => ?_) (fun h4 _ => ?_) ?_
  · rw [decide_eq_false (by lia), decide_eq_false (by lia)]; rfl
  · intro h5
    have : (2 ^ 63 - 1 : Int) / n ≥ (2 ^ 63 - 1) / 1000 := by
      apply Int.le_ediv_of_mul_le (by exact om228 h4)
      have : (2 ^ 63 - 1 : Int) / 1000 * n ≤ (2 ^ 63 - 1) / 1000 * 1000 := Int.mul_le_mul_of_nonneg_left h1 (by decide)
      exact om227 this
    lia
  · have hm : x.length * n.toNat ≤ 1000 * 1000 := Nat.mul_le_mul h3 (by exact om223 h1)
    simp only [Builtin.Str.tooLong, decide_eq_false_iff_not, sizeLine_eq]
    exact om225 hm
  · by_cases h4 : n < 1
    · rw [if_pos h4]
      have e : repStr x n = Str.empty := by
        have : n.toNat = 0 := by exact om224 h4
        simp [repStr, this, Str.empty]
      exact ⟨by decide, by rw [← e]; exact hq _ _⟩
    · rw [if_neg h4]
      by_cases h5 : (n == 1 || x.length == 0) = true
      · rw [if_pos h5]
        have e : repStr x n = x := by
          rcases Bool.or_eq_true_iff.mp h5 with h6 | h6
          · have : n = 1 := by simpa using h6
            subst this; simp [repStr]
          · have h7 : x.cps = #[] := Array.eq_empty_of_size_eq_zero (by simpa [Str.length] using h6)
            have h8 : ∀ k : Nat, (List.replicate k x.cps).foldl (· ++ ·) #[] = (#[] : Array Nat) := by
              intro k
              induction k with
              | zero => rfl
              | succ k ih => rw [List.replicate_succ, List.foldl_cons, h7] at *; simpa using ih
            cases x; simp only at h7; subst h7; simp only [repStr, h8]
        have := hq t s.toks
        rw [e] at this
        exact this
      · rw [if_neg h5]
        refine ⟨?_, hq _ _⟩
        have h6 : ∀ k : Nat, ((List.replicate k x.cps).foldl (· ++ ·) #[]).size = k * x.cps.size := by
          intro k
          have h7 : ∀ (k : Nat) (a : Array Nat), ((List.replicate k x.cps).foldl (· ++ ·) a).size = a.size + k * x.cps.size := by
            intro k
            induction k with
            | zero => intro a; simp
            | succ k ih => intro a; rw [List.replicate_succ, List.foldl_cons, ih, Array.size_append, Nat.succ_mul]; exact om40
          simpa using h7 k #[]
        show ((List.replicate n.toNat x.cps).foldl (· ++ ·) #[]).size ≤ sizeLine
        rw [h6, sizeLine_eq]
        have hm : n.toNat * x.cps.size ≤ 1000 * 1000 := Nat.mul_le_mul (by exact om223 h1) h3
        exact om222 hm

theorem pylong_room (K : C.OK) (R : C.Rel σ g s.heap) (hA : AOK A d) : PylongRoom (model C.prog C.w) A s := by
  obtain ⟨env, l, h1, h2, h3, h4, h5⟩ := hA.fr
  refine PylongRoom.of (K.nolimit.keeps R.rel.base) ?_ (SeerAt.of (K.seer.keeps R.rel.base) K.tree h1 h2 h3 h4 h5)
  have := hA.depth
  show A.depth + 100 < 1000
  exact om221 this

theorem VRs.size {C : Fix} {g : Cfg} {h : Heap} {l : List PV} {vs : Array Value} (hv : C.VRs g h l vs.toList) : vs.size = l.length := by
  rw [VRs.length hv]; simp

theorem listObj_frs {l : List PV} {vs : Array Value} {n : Nat} (R : C.Rel σ g s.heap) (hv : C.VRs g s.heap l vs.toList) :
    FrsR C g (s.heap.push { cls := .type "list", data := .seq vs n }) (.list l) s.heap.objs.size :=
  ⟨vs, ⟨n, Heap.get?_push_size _ rfl⟩, VRs_kept (C := C) (.of_all fun b o e => Heap.get?_push_of_some _ e) hv⟩
theorem tupObj_vr {l : List PV} {vs : Array Value} {n : Nat} (hv : C.VRs g s.heap l vs.toList) :
    C.VR (g.frz s.heap.objs.size) (s.heap.push { cls := .type "tuple", data := .seq vs n }) (.tup l) (.ref s.heap.objs.size) :=
  .tup (.inr rfl) ⟨n, Heap.get?_push_size _ rfl⟩ (VRs_frz (C := C) (VRs_kept (C := C) (.of_all fun b o e => Heap.get?_push_of_some _ e) hv))

theorem addList_sound {a b : Addr} {vs ws : Array Value} (hl : s.heap.IsList a vs) (hb : s.heap.IsList b ws) (hsz : vs.size + ws.size ≤ 1000000)
    (hq : ∀ tk, Q (.ref s.heap.objs.size) { s with heap := s.heap.push { cls := .type "list", data := .seq (vs ++ ws) }, toks := tk }) :
    wpAny (model C.prog C.w) A (binaryOp .Add (.ref a) (.ref b)) Q E s := by
  obtain ⟨⟨cls, dd, data, sl⟩, ho, hc, n, hd⟩ := id hl
  obtain ⟨⟨cls2, dd2, data2, sl2⟩, ho2, hc2, n2, hd2⟩ := id hb
  simp only at hc hd hc2 hd2
  subst hc hd hc2 hd2
  exact concat_meets ⟨_, ho, rfl⟩ ⟨_, ho2, rfl⟩ noFill_list_add seq_list_add PySem.F.slot_list_add PySem.F.entry_list_add (PySem.F.args_list_add_2 _ _)
    (list_addW a b vs ws n n2 dd dd2 sl sl2 (by rw [sizeLine_eq]; exact om220 hsz)) ⟨ho, ho2, hq _⟩

theorem PostO.both {α β : Type} {f : PV → Option α} {f' : PV → Option β} {a b : PV} {k : α → β → Option Out} {o : Option Out} (hp : PostO C σ g s (both f f' a b k o) Q) : (∃ x y, f a = some x ∧ f' b = some y ∧ PostO C σ g s (k x y) Q) ∨ PostO C σ g s o Q := two_elim (fun o => PostO C σ g s o Q) hp
theorem PostO.bind {α : Type} {o : Option α} {f : α → Option Out} (hp : PostO C σ g s (o.bind f) Q) : ∃ x, o = some x ∧ PostO C σ g s (f x) Q := bind_elim (fun o => PostO C σ g s o Q) id hp
theorem PostO.ite {p : Prop} {_ : Decidable p} {o : Out} (hp : PostO C σ g s (if p then some o else none) Q) : p ∧ PostO C σ g s (some o) Q := by
  split at hp
  · exact ⟨‹_›, hp⟩
  · exact hp.elim
theorem PostO.ite' {p : Prop} {_ : Decidable p} {o : Out} (hp : PostO C σ g s (if p then none else some o) Q) : ¬ p ∧ PostO C σ g s (some o) Q := by
  split at hp
  · exact hp.elim
  · exact ⟨‹_›, hp⟩
theorem ints_vr {a b : PV} {x y : Value} {i j : Int} (hx : C.VR g h a x) (hy : C.VR g h b y) (e1 : intOf a = some i) (e2 : intOf b = some j) : ∃ t u, x = .int i t ∧ y = .int j u :=
  let ⟨t, q1⟩ := int_vr e1 hx; let ⟨u, q2⟩ := int_vr e2 hy; ⟨t, u, q1, q2⟩
theorem strs_vr {a b : PV} {x y : Value} {i j : Str} (hx : C.VR g h a x) (hy : C.VR g h b y) (e1 : strOf a = some i) (e2 : strOf b = some j) : ∃ t u, x = .str i t ∧ y = .str j u :=
  let ⟨t, q1⟩ := str_vr e1 hx; let ⟨u, q2⟩ := str_vr e2 hy; ⟨t, u, q1, q2⟩
theorem binop_sound (K : C.OK) (hA : AOK A d) (R : C.Rel σ g s.heap) {op : Operator} {a b : PV} {x y : Value} (hx : C.VR g s.heap a x) (hy : C.VR g s.heap b y) (hp : PostO C σ g s (binop σ op a b) Q) :
    wpAny (model C.prog C.w) A (binaryOp op x y) Q E s := by
  cases op with
  | Add =>
    rcases hp.both with ⟨i, j, e1, e2, hp⟩ | hp
    · obtain ⟨t, u, rfl, rfl⟩ := ints_vr hx hy e1 e2
      exact wpAny_add_int (hp.val R (.int ..))
    · rcases hp.both with ⟨i, j, e1, e2, hp⟩ | hp
      · obtain ⟨t, u, rfl, rfl⟩ := strs_vr hx hy e1 e2
        have hp := hp.ite
        exact add_str (fun t' tk => hp.2.val R (.str ..)) (Nat.le_trans hp.1 (by decide))
      · rcases hp.both with ⟨l, r, e1, e2, hp⟩ | hp
        · obtain ⟨p, vs, rfl, h1, h2⟩ := asList_sound R e1 hx
          obtain ⟨q, ws, rfl, k1, k2⟩ := asList_sound R e2 hy
          have hp := hp.ite
          refine addList_sound h1 k1 (by rw [h2.size, k2.size]; exact hp.1) fun tk => hp.2.made R (listObj_frs R ?_)
          rw [Array.toList_append]; exact h2.append k2
        · exact hp.elim
  | Sub =>
    rcases hp.both with ⟨i, j, e1, e2, hp⟩ | hp
    · obtain ⟨t, u, rfl, rfl⟩ := ints_vr hx hy e1 e2
      exact sub_int (hp.val R (.int ..))
    · exact hp.elim
  | Mult =>
    rcases hp.both with ⟨i, j, e1, e2, hp⟩ | hp
    · obtain ⟨t, u, rfl, rfl⟩ := ints_vr hx hy e1 e2
      have hp := hp.ite
      exact PyProof.Rows.mul_int (hp.2.val R (.int ..)) hp.1
    · rcases hp.both with ⟨i, j, e1, e2, hp⟩ | hp
      · obtain ⟨t, rfl⟩ := str_vr e1 hx
        obtain ⟨u, rfl⟩ := int_vr e2 hy
        have hp := hp.ite
        exact mulStr_sound hp.1.1 hp.1.2.1 hp.1.2.2 fun t' tk => hp.2.val R (.str ..)
      · exact hp.elim
  | FloorDiv =>
    rcases hp.both with ⟨i, j, e1, e2, hp⟩ | hp
    · obtain ⟨t, u, rfl, rfl⟩ := ints_vr hx hy e1 e2
      have hp := hp.ite'
      exact PyProof.Rows.floordiv_int hp.1 (hp.2.val R (.int ..)) (.inr (pylong_room K R hA))
    · exact hp.elim
  | Mod =>
    rcases hp.both with ⟨i, j, e1, e2, hp⟩ | hp
    · obtain ⟨t, u, rfl, rfl⟩ := ints_vr hx hy e1 e2
      have hp := hp.ite'
      exact mod_int' hp.1 (hp.2.val R (.int ..))
    · exact hp.elim
  | Pow =>
    rcases hp.both with ⟨i, j, e1, e2, hp⟩ | hp
    · obtain ⟨t, u, rfl, rfl⟩ := ints_vr hx hy e1 e2
      have hp := hp.ite
      exact pow_int_small hp.1.1 hp.1.2.1 hp.1.2.2 (hp.2.val R (.int ..))
    · exact hp.elim
  | _ => exact hp.elim

end Mine

set_option autoImplicit false
set_option backward.match.sparseCases true
namespace Mine
open PySem PyProof.Rows PySem.SeqAt

variable {C : Fix} {σ : AH} {g g' : Cfg} {h h' : Heap} {s s' : Shared} {own : Addr → Prop} {A : Around} {d : Nat}
  {Q : Value → Shared → Prop} {E : Value → Shared → Prop}

noncomputable abbrev pairPV (l r : List PV) (j : Nat) : Bool := pvEq (l.getD j .none) (r.getD j .none)

theorem pvEqs_all : ∀ l r : List PV, ((List.range (min l.length r.length)).all (pairPV l r) && l.length == r.length) = pvEqs l r
  | [], [] => rfl
  | [], _ :: _ => rfl
  | _ :: _, [] => rfl
  | x :: xs, y :: ys => by
    have ih := pvEqs_all xs ys
    have e1 : min (x :: xs).length (y :: ys).length = min xs.length ys.length + 1 := Nat.succ_min_succ ..
    have e3 : (List.range (min xs.length ys.length + 1)).all (pairPV (x :: xs) (y :: ys)) = (pvEq x y && (List.range (min xs.length ys.length)).all (pairPV xs ys)) := by
      rw [List.range_succ_eq_map, List.all_cons, List.all_map]
      first | rfl | simp [pairPV, Function.comp_def]
    rw [e1, e3, show pvEqs (x :: xs) (y :: ys) = (pvEq x y && pvEqs xs ys) from rfl, ← ih, Bool.and_assoc]
    simp

theorem isTuple_inj {h : Heap} {a : Addr} {vs ws : Array Value} (x : h.IsTuple a vs) (y : h.IsTuple a ws) : vs = ws := by
  obtain ⟨o, ho, _, n, hd⟩ := x
  obtain ⟨o', ho', _, n', hd'⟩ := y
  rw [ho] at ho'; cases ho'; rw [hd] at hd'; cases hd'; rfl

theorem VRs.at {l : List PV} {xs : List Value} (hv : C.VRs g h l xs) {j : Nat} {x : Value} (hx : xs[j]? = some x) : ∃ v, l[j]? = some v ∧ C.VR g h v x := by
  have hlt : j < l.length := by rw [VRs.length hv]; exact (List.getElem?_eq_some_iff.mp hx).1
  have e : l[j]? = some l[j] := List.getElem?_eq_getElem hlt
  obtain ⟨y, h1, h2⟩ := hv.get e
  rw [hx] at h1
  cases h1
  exact ⟨_, e, h2⟩
/-- the kinds of plain values -/
theorem pure_cases {v : PV} (h : pureV v = true) : v = .none ∨ (∃ b, v = .bool b) ∨ (∃ i, v = .int i) ∨ (∃ x, v = .str x) ∨ (∃ l, v = .tup l ∧ pureVs l = true) ∨ ∃ l, v = .lst l ∧ pureVs l = true := by
  cases v with
  | none => exact .inl rfl
  | bool b => exact .inr (.inl ⟨b, rfl⟩)
  | int i => exact .inr (.inr (.inl ⟨i, rfl⟩))
  | str x => exact .inr (.inr (.inr (.inl ⟨x, rfl⟩)))
  | tup l => exact .inr (.inr (.inr (.inr (.inl ⟨l, rfl, h⟩))))
  | lst l => exact .inr (.inr (.inr (.inr (.inr ⟨l, rfl, h⟩))))
  | _ => cases h
theorem deeps_mem {l : List PV} {v : PV} (h : v ∈ l) : deep v ≤ deeps l := by
  induction l with
  | nil => cases h
  | cons a l ih =>
    show _ ≤ max (deep a) (deeps l)
    rcases List.mem_cons.mp h with rfl | h
    · exact Nat.le_max_left ..
    · exact Nat.le_trans (ih h) (Nat.le_max_right ..)

theorem rc_of {a b : PV} {x y : Value} (hx : C.VR g s.heap a x) (hy : C.VR g s.heap b y) (pa : pureV a = true) (pb : pureV b = true) (hu : A.units < cLine)
    (he : ∀ {l r : List PV} {vs ws : Array Value}, (a = .tup l ∧ b = .tup r) ∨ (a = .lst l ∧ b = .lst r) → C.VRs g s.heap l vs.toList → C.VRs g s.heap r ws.toList → ∀ j (h1 : j < vs.size) (h2 : j < ws.size), EqAt A.in1 s vs[j] ws[j] (pairPV l r j)) :
    RcAt A s x y (pvEq a b) ∧ RcNeAt A s x y (!pvEq a b) := by
  rcases pure_cases pa with rfl | ⟨v, rfl⟩ | ⟨v, rfl⟩ | ⟨v, rfl⟩ | ⟨l, rfl, _⟩ | ⟨l, rfl, _⟩
  · clear he
    obtain rfl := VR_inv hx
    rcases pure_cases pb with rfl | ⟨u, rfl⟩ | ⟨u, rfl⟩ | ⟨u, rfl⟩ | ⟨r, rfl, _⟩ | ⟨r, rfl, _⟩
    · obtain rfl := VR_inv hy; exact ⟨RcAt.none_none, RcNeAt.none_none⟩
    · obtain rfl := VR_inv hy; exact ⟨RcAt.none_bool _, RcNeAt.none_bool _⟩
    · obtain ⟨thy, rfl⟩ := VR_inv hy; exact ⟨RcAt.none_int _ _, RcNeAt.none_int _ _⟩
    · obtain ⟨thy, rfl⟩ := VR_inv hy; exact ⟨RcAt.none_str _ _, RcNeAt.none_str _ _⟩
    · obtain ⟨ahy, vshy, rfl, lhy, rhy⟩ := VR_inv hy; exact ⟨RcAt.none_tuple (isTuple_of lhy) hu, RcNeAt.none_tuple (isTuple_of lhy) hu⟩
    · obtain ⟨ahy, vshy, rfl, lhy, rhy⟩ := VR_inv hy; exact ⟨RcAt.none_list (isList_of lhy) hu, RcNeAt.none_list (isList_of lhy) hu⟩
  · clear he
    obtain rfl := VR_inv hx
    rcases pure_cases pb with rfl | ⟨u, rfl⟩ | ⟨u, rfl⟩ | ⟨u, rfl⟩ | ⟨r, rfl, _⟩ | ⟨r, rfl, _⟩
    · obtain rfl := VR_inv hy; exact ⟨RcAt.bool_none _, RcNeAt.bool_none _⟩
    · obtain rfl := VR_inv hy; exact ⟨RcAt.bool_bool _ _, RcNeAt.bool_bool _ _⟩
    · obtain ⟨thy, rfl⟩ := VR_inv hy; rw [show pvEq (.bool v) (.int u) = ((if v = true then 1 else 0) == u) from Bool.or_false _]; exact ⟨RcAt.bool_int _ _ _, RcNeAt.bool_int _ _ _⟩
    · obtain ⟨thy, rfl⟩ := VR_inv hy; exact ⟨RcAt.bool_str _ _ _, RcNeAt.bool_str _ _ _⟩
    · obtain ⟨ahy, vshy, rfl, lhy, rhy⟩ := VR_inv hy; exact ⟨RcAt.bool_tuple _ (isTuple_of lhy) hu, RcNeAt.bool_tuple _ (isTuple_of lhy) hu⟩
    · obtain ⟨ahy, vshy, rfl, lhy, rhy⟩ := VR_inv hy; exact ⟨RcAt.bool_list _ (isList_of lhy) hu, RcNeAt.bool_list _ (isList_of lhy) hu⟩
  · clear he
    obtain ⟨thx, rfl⟩ := VR_inv hx
    rcases pure_cases pb with rfl | ⟨u, rfl⟩ | ⟨u, rfl⟩ | ⟨u, rfl⟩ | ⟨r, rfl, _⟩ | ⟨r, rfl, _⟩
    · obtain rfl := VR_inv hy; exact ⟨RcAt.int_none _ _, RcNeAt.int_none _ _⟩
    · obtain rfl := VR_inv hy; rw [show pvEq (.int v) (.bool u) = (v == if u = true then 1 else 0) from Bool.or_false _]; exact ⟨RcAt.int_bool _ _ _, RcNeAt.int_bool _ _ _⟩
    · obtain ⟨thy, rfl⟩ := VR_inv hy; exact ⟨RcAt.int_int _ _ _ _, RcNeAt.int_int _ _ _ _⟩
    · obtain ⟨thy, rfl⟩ := VR_inv hy; exact ⟨RcAt.int_str _ _ _ _, RcNeAt.int_str _ _ _ _⟩
    · obtain ⟨ahy, vshy, rfl, lhy, rhy⟩ := VR_inv hy; exact ⟨RcAt.int_tuple _ _ (isTuple_of lhy) hu, RcNeAt.int_tuple _ _ (isTuple_of lhy) hu⟩
    · obtain ⟨ahy, vshy, rfl, lhy, rhy⟩ := VR_inv hy; exact ⟨RcAt.int_list _ _ (isList_of lhy) hu, RcNeAt.int_list _ _ (isList_of lhy) hu⟩
  · clear he
    obtain ⟨thx, rfl⟩ := VR_inv hx
    rcases pure_cases pb with rfl | ⟨u, rfl⟩ | ⟨u, rfl⟩ | ⟨u, rfl⟩ | ⟨r, rfl, _⟩ | ⟨r, rfl, _⟩
    · obtain rfl := VR_inv hy; exact ⟨RcAt.str_none _ _, RcNeAt.str_none _ _⟩
    · obtain rfl := VR_inv hy; exact ⟨RcAt.str_bool _ _ _, RcNeAt.str_bool _ _ _⟩
    · obtain ⟨thy, rfl⟩ := VR_inv hy; exact ⟨RcAt.str_int _ _ _ _, RcNeAt.str_int _ _ _ _⟩
    · obtain ⟨thy, rfl⟩ := VR_inv hy; exact ⟨RcAt.str_str _ _ _ _, RcNeAt.str_str _ _ _ _⟩
    · obtain ⟨ahy, vshy, rfl, lhy, rhy⟩ := VR_inv hy; exact ⟨RcAt.str_tuple _ _ (isTuple_of lhy) hu, RcNeAt.str_tuple _ _ (isTuple_of lhy) hu⟩
    · obtain ⟨ahy, vshy, rfl, lhy, rhy⟩ := VR_inv hy; exact ⟨RcAt.str_list _ _ (isList_of lhy) hu, RcNeAt.str_list _ _ (isList_of lhy) hu⟩
  · obtain ⟨ahx, vshx, rfl, lhx, rhx⟩ := VR_inv hx
    rcases pure_cases pb with rfl | ⟨u, rfl⟩ | ⟨u, rfl⟩ | ⟨u, rfl⟩ | ⟨r, rfl, _⟩ | ⟨r, rfl, _⟩
    · clear he; obtain rfl := VR_inv hy; exact ⟨RcAt.tuple_none (isTuple_of lhx) hu, RcNeAt.tuple_none (isTuple_of lhx) hu⟩
    · clear he; obtain rfl := VR_inv hy; exact ⟨RcAt.tuple_bool _ (isTuple_of lhx) hu, RcNeAt.tuple_bool _ (isTuple_of lhx) hu⟩
    · clear he; obtain ⟨thy, rfl⟩ := VR_inv hy; exact ⟨RcAt.tuple_int _ _ (isTuple_of lhx) hu, RcNeAt.tuple_int _ _ (isTuple_of lhx) hu⟩
    · clear he; obtain ⟨thy, rfl⟩ := VR_inv hy; exact ⟨RcAt.tuple_str _ _ (isTuple_of lhx) hu, RcNeAt.tuple_str _ _ (isTuple_of lhx) hu⟩
    · obtain ⟨ahy, vshy, rfl, lhy, rhy⟩ := VR_inv hy
      rw [show pvEq (.tup l) (.tup r) = pvEqs l r from rfl, ← pvEqs_all, ← rhx.size, ← rhy.size]
      exact ⟨RcAt.tuples (isTuple_of lhx) (isTuple_of lhy) hu (he (.inl ⟨rfl, rfl⟩) rhx rhy), RcNeAt.tuples (isTuple_of lhx) (isTuple_of lhy) hu (he (.inl ⟨rfl, rfl⟩) rhx rhy)⟩
    · clear he; obtain ⟨ahy, vshy, rfl, lhy, rhy⟩ := VR_inv hy; exact ⟨RcAt.tuple_list (isTuple_of lhx) (isList_of lhy) hu, RcNeAt.tuple_list (isTuple_of lhx) (isList_of lhy) hu⟩
  · obtain ⟨ahx, vshx, rfl, lhx, rhx⟩ := VR_inv hx
    rcases pure_cases pb with rfl | ⟨u, rfl⟩ | ⟨u, rfl⟩ | ⟨u, rfl⟩ | ⟨r, rfl, _⟩ | ⟨r, rfl, _⟩
    · clear he; obtain rfl := VR_inv hy; exact ⟨RcAt.list_none (isList_of lhx) hu, RcNeAt.list_none (isList_of lhx) hu⟩
    · clear he; obtain rfl := VR_inv hy; exact ⟨RcAt.list_bool _ (isList_of lhx) hu, RcNeAt.list_bool _ (isList_of lhx) hu⟩
    · clear he; obtain ⟨thy, rfl⟩ := VR_inv hy; exact ⟨RcAt.list_int _ _ (isList_of lhx) hu, RcNeAt.list_int _ _ (isList_of lhx) hu⟩
    · clear he; obtain ⟨thy, rfl⟩ := VR_inv hy; exact ⟨RcAt.list_str _ _ (isList_of lhx) hu, RcNeAt.list_str _ _ (isList_of lhx) hu⟩
    · clear he; obtain ⟨ahy, vshy, rfl, lhy, rhy⟩ := VR_inv hy; exact ⟨RcAt.list_tuple (isList_of lhx) (isTuple_of lhy) hu, RcNeAt.list_tuple (isList_of lhx) (isTuple_of lhy) hu⟩
    · obtain ⟨ahy, vshy, rfl, lhy, rhy⟩ := VR_inv hy
      rw [show pvEq (.lst l) (.lst r) = pvEqs l r from rfl, ← pvEqs_all, ← rhx.size, ← rhy.size]
      by_cases hsz : vshx.size = vshy.size
      · rw [← hsz, Nat.min_self, beq_self_eq_true, Bool.and_true]
        exact ⟨RcAt.lists (isList_of lhx) (isList_of lhy) hsz hu (he (.inr ⟨rfl, rfl⟩) rhx rhy), RcNeAt.lists (isList_of lhx) (isList_of lhy) hsz hu (he (.inr ⟨rfl, rfl⟩) rhx rhy)⟩
      · rw [beq_eq_false_iff_ne.mpr hsz, Bool.and_false]
        exact ⟨RcAt.lists_lengths (isList_of lhx) (isList_of lhy) (bne_iff_ne.mpr hsz) hu, RcNeAt.lists_lengths (isList_of lhx) (isList_of lhy) (bne_iff_ne.mpr hsz) hu⟩
theorem vr_nofloat {a : PV} {x : Value} (hx : C.VR g h a x) : ∀ b t, x ≠ .float b t := by cases hx <;> exact fun _ _ q => nomatch q
theorem eqAt_of_rc {x y : Value} {k : Bool} (hne : x ≠ y) (hf : ∀ b t, x ≠ .float b t) (h : RcAt A s x y k) : EqAt A s x y k := fun prog w E Q hq => by
  unfold eqBool
  refine wpAny_holding ?_
  refine wpAny_ite_split (fun hab => absurd (eq_of_beq hab) hne) (fun _ => ?_)
  cases x with
  | float b t => exact absurd rfl (hf b t)
  | _ => exact wpAny_bind (h prog w E _ (wpAny_truthy_bool hq))

theorem tup_not_list {a : Addr} {vs ws : Array Value} (h1 : IsTupX h a vs) (h2 : IsListX h a ws) : False := by
  obtain ⟨n, e⟩ := h1
  obtain ⟨m, e'⟩ := h2
  rw [e] at e'
  have := congrArg Obj.cls (Option.some.inj e')
  exact absurd (show Value.type "tuple" = .type "list" from this) (by decide)
theorem one3 : (∀ {v : PV} {x : Value}, C.VR g h v x → ∀ b, C.VR g h b x → pureV v = true → pureV b = true → pvEq v b = true) ∧
    (∀ {l : List PV} {xs : List Value}, C.VRs g h l xs → ∀ r, C.VRs g h r xs → pureVs l = true → pureVs r = true → pvEqs l r = true) ∧ (∀ {l : List (Str × PV)} {xs : List (Str × Value)}, C.VRd g h l xs → True) := by
  refine VR.ind (fun b hb _ pb => ?_) (fun i b hb _ pb => ?_) (fun i t b hb _ pb => ?_) (fun i t b hb _ pb => ?_) (fun l a vs _ hl _ ih b hb pl pb => ?_) (fun l a vs _ hl _ ih b hb pl pb => ?_) (fun _ _ _ _ _ _ _ _ b _ p => nomatch p) (fun _ _ _ _ _ b _ p => nomatch p) (fun _ _ _ b _ p => nomatch p)
    (fun r hr _ _ => ?_) (fun v x l r' _ _ i1 i2 r hr pl pr => ?_) trivial (fun _ _ _ _ _ _ _ _ _ => trivial)
  · rcases pure_cases pb with rfl | ⟨u, rfl⟩ | ⟨u, rfl⟩ | ⟨u, rfl⟩ | ⟨r, rfl, _⟩ | ⟨r, rfl, _⟩
    · rfl
    · exact nomatch (show Value.none = .bool u from VR_inv hb)
    · obtain ⟨_, e⟩ := VR_inv hb; exact nomatch e
    · obtain ⟨_, e⟩ := VR_inv hb; exact nomatch e
    · obtain ⟨_, _, e, _⟩ := VR_inv hb; exact nomatch e
    · obtain ⟨_, _, e, _⟩ := VR_inv hb; exact nomatch e
  · rcases pure_cases pb with rfl | ⟨u, rfl⟩ | ⟨u, rfl⟩ | ⟨u, rfl⟩ | ⟨r, rfl, _⟩ | ⟨r, rfl, _⟩
    · exact nomatch (show Value.bool i = .none from VR_inv hb)
    · cases (show Value.bool i = .bool u from VR_inv hb); exact beq_self_eq_true i
    · obtain ⟨_, e⟩ := VR_inv hb; exact nomatch e
    · obtain ⟨_, e⟩ := VR_inv hb; exact nomatch e
    · obtain ⟨_, _, e, _⟩ := VR_inv hb; exact nomatch e
    · obtain ⟨_, _, e, _⟩ := VR_inv hb; exact nomatch e
  · rcases pure_cases pb with rfl | ⟨u, rfl⟩ | ⟨u, rfl⟩ | ⟨u, rfl⟩ | ⟨r, rfl, _⟩ | ⟨r, rfl, _⟩
    · exact nomatch (show Value.int i t = .none from VR_inv hb)
    · exact nomatch (show Value.int i t = .bool u from VR_inv hb)
    · obtain ⟨_, e⟩ := VR_inv hb; cases e; exact beq_self_eq_true i
    · obtain ⟨_, e⟩ := VR_inv hb; exact nomatch e
    · obtain ⟨_, _, e, _⟩ := VR_inv hb; exact nomatch e
    · obtain ⟨_, _, e, _⟩ := VR_inv hb; exact nomatch e
  · rcases pure_cases pb with rfl | ⟨u, rfl⟩ | ⟨u, rfl⟩ | ⟨u, rfl⟩ | ⟨r, rfl, _⟩ | ⟨r, rfl, _⟩
    · exact nomatch (show Value.str i t = .none from VR_inv hb)
    · exact nomatch (show Value.str i t = .bool u from VR_inv hb)
    · obtain ⟨_, e⟩ := VR_inv hb; exact nomatch e
    · obtain ⟨_, e⟩ := VR_inv hb; cases e; exact beq_self_eq_true i
    · obtain ⟨_, _, e, _⟩ := VR_inv hb; exact nomatch e
    · obtain ⟨_, _, e, _⟩ := VR_inv hb; exact nomatch e
  · rcases pure_cases pb with rfl | ⟨u, rfl⟩ | ⟨u, rfl⟩ | ⟨u, rfl⟩ | ⟨r, rfl, pr⟩ | ⟨r, rfl, _⟩
    · exact nomatch (show Value.ref a = .none from VR_inv hb)
    · exact nomatch (show Value.ref a = .bool u from VR_inv hb)
    · obtain ⟨_, e⟩ := VR_inv hb; exact nomatch e
    · obtain ⟨_, e⟩ := VR_inv hb; exact nomatch e
    · obtain ⟨_, ws, e, k2, k3⟩ := VR_inv hb
      cases e
      have := isTuple_inj (isTuple_of hl) (isTuple_of k2)
      subst this
      exact ih r k3 pl pr
    · obtain ⟨_, ws, e, k2, k3⟩ := VR_inv hb
      cases e
      exact (tup_not_list hl k2).elim
  · rcases pure_cases pb with rfl | ⟨u, rfl⟩ | ⟨u, rfl⟩ | ⟨u, rfl⟩ | ⟨r, rfl, pr⟩ | ⟨r, rfl, pr⟩
    · exact nomatch (show Value.ref a = .none from VR_inv hb)
    · exact nomatch (show Value.ref a = .bool u from VR_inv hb)
    · obtain ⟨_, e⟩ := VR_inv hb; exact nomatch e
    · obtain ⟨_, e⟩ := VR_inv hb; exact nomatch e
    · obtain ⟨_, ws, e, k2, k3⟩ := VR_inv hb
      cases e
      exact (tup_not_list k2 hl).elim
    · obtain ⟨_, ws, e, ⟨n2, k2⟩, k3⟩ := VR_inv hb
      cases e
      obtain ⟨n1, hl⟩ := hl
      rw [hl] at k2
      cases k2
      exact ih r k3 pl pr
  · cases r with
    | nil => rfl
    | cons => exact nomatch VRs.length hr
  · cases r with
    | nil => exact nomatch VRs.length hr
    | cons y r =>
      cases hr with
      | cons k1 k2 =>
        have pl := Bool.and_eq_true_iff.mp pl
        have pr := Bool.and_eq_true_iff.mp pr
        exact Bool.and_eq_true_iff.mpr ⟨i1 y k1 pl.1 pr.1, i2 r k2 pl.2 pr.2⟩
theorem one_n {a b : PV} {x : Value} (ha : C.VR g h a x) (hb : C.VR g h b x) (pa : pureV a = true) (pb : pureV b = true) : pvEq a b = true := one3.1 ha b hb pa pb
theorem eqAt_n : ∀ (n : Nat) {a b : PV} {A : Around} {x y : Value}, deep a ≤ n → C.VR g s.heap a x → C.VR g s.heap b y → pureV a = true → pureV b = true → A.units + deep a < cLine →
    (RcAt A s x y (pvEq a b) ∧ RcNeAt A s x y (!pvEq a b)) ∧ EqAt A s x y (pvEq a b) := by
  intro n
  induction n with
  | zero =>
    intro a b A x y hd hx hy pa pb hu
    have r := rc_of hx hy pa pb (Nat.lt_of_le_of_lt (Nat.le_add_right _ _) hu) fun {l r vs ws} ea hl hr j h1 h2 => by rcases ea with ⟨ea, _⟩ | ⟨ea, _⟩ <;> (subst ea; exact absurd hd (Nat.not_succ_le_zero _))
    refine ⟨r, ?_⟩
    by_cases he : x = y
    · subst he; rw [one_n hx hy pa pb]; exact EqAt.same _
    · exact eqAt_of_rc he (vr_nofloat hx) r.1
  | succ n ih =>
    intro a b A x y hd hx hy pa pb hu
    have r := rc_of hx hy pa pb (Nat.lt_of_le_of_lt (Nat.le_add_right _ _) hu) fun {l r vs ws} ea hl hr j h1 h2 => by
      have hd' : deeps l ≤ n := by rcases ea with ⟨ea, _⟩ | ⟨ea, _⟩ <;> (subst ea; exact Nat.le_of_succ_le_succ hd)
      have hu' : A.units + (deeps l + 1) < cLine := by rcases ea with ⟨ea, _⟩ | ⟨ea, _⟩ <;> (subst ea; exact hu)
      have pl : pureVs l = true := by rcases ea with ⟨ea, _⟩ | ⟨ea, _⟩ <;> (subst ea; exact pa)
      have pr : pureVs r = true := by rcases ea with ⟨_, ea⟩ | ⟨_, ea⟩ <;> (subst ea; exact pb)
      obtain ⟨v, e1, w1⟩ := VRs.at hl (j := j) (x := vs[j]) (by simp [h1])
      obtain ⟨u, e2, w2⟩ := VRs.at hr (j := j) (x := ws[j]) (by simp [h2])
      have m1 := List.mem_of_getElem? e1
      have hdv := deeps_mem m1
      have := (ih (A := A.in1) (Nat.le_trans hdv hd') w1 w2 (pureVs_iff.mp pl v m1) (pureVs_iff.mp pr u (List.mem_of_getElem? e2)) (by show A.units + 1 + deep v < cLine; exact om231 hu' hdv)).2
      unfold pairPV
      rw [List.getD_eq_getElem?_getD, List.getD_eq_getElem?_getD, e1, e2]
      exact this
    refine ⟨r, ?_⟩
    by_cases he : x = y
    · subst he; rw [one_n hx hy pa pb]; exact EqAt.same _
    · exact eqAt_of_rc he (vr_nofloat hx) r.1
theorem rc_vr {a b : PV} {x y : Value} (hx : C.VR g s.heap a x) (hy : C.VR g s.heap b y) (pa : pureV a = true) (pb : pureV b = true) (hu : A.units + deep a < cLine) :
    RcAt A s x y (pvEq a b) ∧ RcNeAt A s x y (!pvEq a b) := (eqAt_n _ (Nat.le_refl _) hx hy pa pb hu).1
end Mine

set_option autoImplicit false
set_option backward.match.sparseCases true
namespace Mine
open PySem PyProof.Rows PySem.SeqAt

variable {C : Fix} {σ : AH} {g g' : Cfg} {h h' : Heap} {s s' : Shared} {own : Addr → Prop} {A : Around} {d : Nat}
  {Q : Value → Shared → Prop} {E : Value → Shared → Prop}

theorem plain_pure {v : PV} (h : plain v = true) : pureV v = true ∧ deep v ≤ 200 := let ⟨h1, h2⟩ := Bool.and_eq_true_iff.mp h; ⟨h1, of_decide_eq_true h2⟩
/-- everything frozen: for what is only read -/
noncomputable def Cfg.all (g : Cfg) : Cfg := ⟨g.μ, fun _ => True, g.lk⟩
theorem vri_all {w : PV} {x : Value} (hd : VRi C g h w x) (hp : pureV w = true) : C.VR g.all h w x := by
  rcases pure_cases hp with rfl | ⟨b, rfl⟩ | ⟨i, rfl⟩ | ⟨y, rfl⟩ | ⟨l, rfl, _⟩ | ⟨l, rfl, _⟩
  · cases (show x = .none from hd); exact .none
  · cases (show x = .bool b from hd); exact .bool b
  · obtain ⟨t, rfl⟩ := hd; exact .int ..
  · obtain ⟨t, rfl⟩ := hd; exact .str ..
  · obtain ⟨a, vs, rfl, h1, h2⟩ := hd; exact .tup trivial h1 (VRs.mono (g' := g.all) (List.prefix_refl g.μ) (fun _ _ => trivial) (fun _ _ _ e => e) h2)
  · obtain ⟨a, vs, rfl, h1, h2⟩ := hd; exact .lst trivial h1 (VRs.mono (g' := g.all) (List.prefix_refl g.μ) (fun _ _ => trivial) (fun _ _ _ e => e) h2)
/-- two dicts -/
theorem hits_vr {m : List (Str × PV)} {kws : List (Str × Value)} (v2 : C.VRd g s.heap m kws) (p2 : plainD m = true) (hu : A.units + 200 < cLine) {l : List (Str × PV)} {kvs : List (Str × Value)} (v1 : C.VRd g s.heap l kvs) : plainD l = true →
    PySem.W.KeqHits A s kws kvs (l.all fun kv => (dget m kv.1).any (pvEq kv.2)) :=
  (VR.ind (P := fun _ _ => True) (Q := fun _ _ => True) (S := fun l kvs => plainD l = true → PySem.W.KeqHits A s kws kvs (l.all fun kv => (dget m kv.1).any (pvEq kv.2)))
    trivial (fun _ => trivial) (fun _ _ => trivial) (fun _ _ => trivial) (fun _ _ _ _ _ _ _ => trivial) (fun _ _ _ _ _ _ _ => trivial) (fun _ _ _ _ _ _ _ _ => trivial) (fun _ _ _ _ _ => trivial) (fun _ _ _ => trivial) trivial (fun _ _ _ _ _ _ _ _ => trivial)
    (fun _ => .nil) (fun k v x l r hx hr _ ih p => by
      have p := Bool.and_eq_true_iff.mp p
      have ih := ih p.2
      have hg := v2.get k
      show PySem.W.KeqHits A s kws ((k, x) :: r) ((dget m k).any (pvEq v) && _)
      cases hm : dget m k with
      | none => rw [hm] at hg; exact .miss hg
      | some v' =>
        rw [hm] at hg
        refine byC fun hZ => ?_
        obtain ⟨x', h2, h3⟩ := hg
        refine hZ ?_; clear hZ
        have q1 := plain_pure p.1
        have q2 := plain_pure (List.all_eq_true.mp p2 _ (mem_of_dget hm))
        exact .hit h2 (eqAt_n _ (Nat.le_refl _) hx h3 q1.1 q2.1 (Nat.lt_of_le_of_lt (Nat.add_le_add_left q1.2 _) hu)).2 ih)).2.2 v1
theorem rcDict {a b : Addr} {l m : List (Str × PV)} {kvs kws : List (Str × Value)} (hA : AOK A d) (ha : a ≠ sysModules) (hb : b ≠ sysModules) (h1 : s.heap.DictOf (strKind C.prog C.w) a kvs) (h2 : s.heap.DictOf (strKind C.prog C.w) b kws)
    (v1 : C.VRd g s.heap l kvs) (v2 : C.VRd g s.heap m kws) (p1 : plainD l = true) (p2 : plainD m = true) :
    (∀ Q E, (∀ tk, Q (.bool (dctEq l m)) { s with toks := tk }) → wpAny (model C.prog C.w) A (compareOp .Eq (.ref a) (.ref b)) Q E s) ∧
    (∀ Q E, (∀ tk, Q (.bool (!dctEq l m)) { s with toks := tk }) → wpAny (model C.prog C.w) A (compareOp .NotEq (.ref a) (.ref b)) Q E s) := by
  have hu := hA.units
  have hu0 : A.units < cLine := by exact om236 hu
  have hu1 : A.in1.units + 200 < cLine := by
    show A.units + 1 + 200 < cLine
    exact om235 hu
  have hh := hits_vr (A := A.in1) v2 p2 hu1 v1 p1
  have e : dctEq l m = (kvs.length == kws.length && l.all fun kv => (dget m kv.1).any (pvEq kv.2)) := by
    unfold dctEq; rw [v1.length, v2.length]
  refine ⟨fun Q E hq => ?_, fun Q E hq => ?_⟩
  · refine PySem.W.keq_eq (by simpa using ha) (by simpa using hb) h1 h2 hu0 (fun _ => hh) ?_
    rw [← e]; exact hq s.toks
  · refine PySem.W.keq_ne (by simpa using ha) (by simpa using hb) h1 h2 hu0 (fun _ => hh) ?_
    rw [← e]; exact hq s.toks
theorem some2 {α β : Type} {f : PV → Option α} {f' : PV → Option β} {a b : PV} {k : α → β → Option Bool} {o : Option Bool} {r : Bool} (hp : both f f' a b k o = some r) : (∃ x y, f a = some x ∧ f' b = some y ∧ k x y = some r) ∨ o = some r := two_elim (fun o => o = some r) hp
theorem eqP_sound (hA : AOK A d) (R : C.Rel σ g s.heap) {a b : PV} {x y : Value} {r : Bool} (hx : C.VR g s.heap a x) (hy : C.VR g s.heap b y) (he : eqP σ a b = some r) :
    (∀ Q E, (∀ tk, Q (.bool r) { s with toks := tk }) → wpAny (model C.prog C.w) A (compareOp .Eq x y) Q E s) ∧
    (∀ Q E, (∀ tk, Q (.bool (!r)) { s with toks := tk }) → wpAny (model C.prog C.w) A (compareOp .NotEq x y) Q E s) := by
  rcases some2 he with ⟨l, m, h1, h2, he⟩ | he
  · split at he
    · rename_i hpp
      cases he
      have hx := deref_sound R hx
      have hy := deref_sound R hy
      rw [dctOf_eq h1] at hx
      rw [dctOf_eq h2] at hy
      refine byC fun hZ => ?_
      obtain ⟨a', kvs, rfl, a1, a2, a3⟩ := hx
      obtain ⟨b', kws, rfl, b1, b2, b3⟩ := hy
      refine hZ ?_; clear hZ
      exact rcDict hA a1 b1 a2 b2 a3 b3 (Bool.and_eq_true_iff.mp hpp).1 (Bool.and_eq_true_iff.mp hpp).2
    · cases he
  · unfold eqV at he
    split at he
    · rename_i hpp
      cases he
      have p1 := plain_pure (Bool.and_eq_true_iff.mp hpp).1
      have p2 := plain_pure (Bool.and_eq_true_iff.mp hpp).2
      have hu := hA.units
      obtain ⟨e1, e2⟩ := rc_vr (A := A) (vri_all (deref_sound R hx) p1.1) (vri_all (deref_sound R hy) p2.1) p1.1 p2.1 (by have := p1.2; exact om234 hu this)
      exact ⟨fun Q E hq => e1 C.prog C.w E Q (hq s.toks), fun Q E hq => e2 C.prog C.w E Q (hq s.toks)⟩
    · cases he

theorem cmp2_sound {a b : PV} {x y : Value} {r : Bool} {op : CmpOp} {f : Int → Int → Bool} {f' : Str → Str → Bool} (hx : C.VR g s.heap a x) (hy : C.VR g s.heap b y)
    (he : both intOf intOf a b (fun x y => some (f x y)) (both strOf strOf a b (fun x y => some (f' x y)) none) = some r)
    (hi : ∀ i j t u, r = f i j → wpAny (model C.prog C.w) A (compareOp op (.int i t) (.int j u)) Q E s) (hs : ∀ i j t u, r = f' i j → wpAny (model C.prog C.w) A (compareOp op (.str i t) (.str j u)) Q E s) :
    wpAny (model C.prog C.w) A (compareOp op x y) Q E s := by
  rcases some2 he with ⟨i, j, e1, e2, e⟩ | he
  · obtain ⟨t, u, rfl, rfl⟩ := ints_vr hx hy e1 e2
    exact hi i j t u (Option.some.inj e).symm
  · rcases some2 he with ⟨i, j, e1, e2, e⟩ | he
    · obtain ⟨t, u, rfl, rfl⟩ := strs_vr hx hy e1 e2
      exact hs i j t u (Option.some.inj e).symm
    · cases he
open Classical in
theorem cmpP_sound (hA : AOK A d) (R : C.Rel σ g s.heap) {op : CmpOp} {a b : PV} {x y : Value} {r : Bool} (hx : C.VR g s.heap a x) (hy : C.VR g s.heap b y) (he : cmpP σ op a b = some r)
    (hq : ∀ tk, Q (.bool r) { s with toks := tk }) : wpAny (model C.prog C.w) A (compareOp op x y) Q E s := by
  cases op with
  | Eq => exact (eqP_sound hA R hx hy he).1 Q E hq
  | NotEq =>
    obtain ⟨r', h1, rfl⟩ := Option.map_eq_some_iff.mp (show (eqP σ a b).map (!·) = some r from he)
    exact (eqP_sound hA R hx hy h1).2 Q E hq
  | Lt => exact cmp2_sound hx hy he (fun _ _ _ _ e => by subst e; exact wpAny_lt_int (hq _)) (fun _ _ _ _ e => by subst e; exact PyProof.Rows.lt_str (hq _))
  | LtE => exact cmp2_sound hx hy he (fun _ _ _ _ e => by subst e; exact PyProof.Rows.le_int (hq _)) (fun _ _ _ _ e => by subst e; exact P.le_str (hq _))
  | Gt => exact cmp2_sound hx hy he (fun _ _ _ _ e => by subst e; exact PyProof.Rows.gt_int (hq _)) (fun _ _ _ _ e => by subst e; exact P.gt_str (hq _))
  | _ => cases he

theorem small_le {n : Nat} (h : small n = true) : n ≤ 1000000 := by simpa [small] using h

theorem isEmpty_len {vs : Array Value} {n : Nat} (h : vs.size = n) : (!vs.isEmpty) = (n != 0) := by
  subst h
  rw [Bool.eq_iff_iff]; simp [Array.isEmpty]
theorem len_cast (n : Nat) : ((n : Int) != 0) = (n != 0) := by rw [Bool.eq_iff_iff]; simp

theorem truthN_some {n : Nat} {r : Bool} (h : truthN n = some r) : n ≤ 1000000 ∧ r = (n != 0) := by
  unfold truthN at h
  split at h
  · exact ⟨small_le ‹_›, (Option.some.inj h).symm⟩
  · cases h
theorem truth_sound (R : C.Rel σ g s.heap) {v : PV} {x : Value} {r : Bool} {Q : Bool → Shared → Prop} (hv : C.VR g s.heap v x) (he : truth σ v = some r) (hq : ∀ tk, Q r { s with toks := tk }) :
    wpAny (model C.prog C.w) A (truthy x) Q E s := by
  have hd := deref_sound R hv
  have he : truthD (deref σ v) = some r := he
  generalize deref σ v = w at hd he
  cases w with
  | none => cases hd; cases he; exact truthy_none (hq _)
  | bool b => cases hd; cases he; exact wpAny_truthy_bool (hq _)
  | int i => obtain ⟨t, rfl⟩ := hd; cases he; exact PyProof.Rows.truthy_int (hq _)
  | str y =>
    obtain ⟨t, rfl⟩ := hd
    obtain ⟨h5, rfl⟩ := truthN_some he
    exact P.truthy_str (by lia) (by rw [len_cast]; exact hq _)
  | tup l =>
    refine byC fun hZ => ?_
    obtain ⟨a, vs, rfl, h1, h2⟩ := hd
    obtain ⟨h5, rfl⟩ := truthN_some he
    refine hZ ?_; clear hZ
    have h6 := h2.size
    exact truthy_tuple (isTuple_of h1) (by lia) (by rw [isEmpty_len h6]; exact hq _)
  | lst l =>
    refine byC fun hZ => ?_
    obtain ⟨a, vs, rfl, h1, h2⟩ := hd
    obtain ⟨h5, rfl⟩ := truthN_some he
    refine hZ ?_; clear hZ
    have h6 := h2.size
    exact wpAny_truthy_list (isList_of h1) (by lia) (by rw [isEmpty_len h6]; exact hq _)
  | _ => cases he
end Mine

set_option autoImplicit false
set_option backward.match.sparseCases true
namespace Mine
open PySem PyProof.Rows PySem.SeqAt

variable {C : Fix} {σ : AH} {g g' : Cfg} {h h' : Heap} {s s' : Shared} {own : Addr → Prop} {A : Around} {d : Nat}
  {Q : Value → Shared → Prop} {E : Value → Shared → Prop}

theorem pickAt_some {l : List PV} {k : Int} {o : Out} (h : pickAt l k = some o) : 0 ≤ k ∧ k ≤ 1000000 ∧ ∃ v, l[k.toNat]? = some v ∧ o = .v v := by
  unfold pickAt at h
  split at h
  · rename_i hk
    obtain ⟨v, h1, h2⟩ := Option.map_eq_some_iff.mp h
    exact ⟨hk.1, hk.2, v, h1, h2.symm⟩
  · cases h

theorem seqIndex_nat {k : Int} {n : Nat} (h0 : 0 ≤ k) (h1 : k.toNat < n) : seqIndex? k n = some k.toNat := by
  unfold seqIndex?
  have h2 : ¬ k < 0 := by exact om242 h0
  simp only [h2, if_false]
  split
  · rfl
  · rename_i h3; simp at h3; exact (om241 h1 h2 h3).elim

theorem getAt_tail (R : C.Rel σ g s.heap) {value slice : Expr} {a i : PV} {x y : Value} (hx : C.VR g s.heap a x) (hy : C.VR g s.heap i y) (hn : notSlice slice = true)
    (hp : PostO C σ g s (getAt σ a i) Q) : wpAny (model C.prog C.w) A (subscriptTail value slice x y) Q E s := by
  have hs : ∀ o i, subscripted slice false o i = operate [o, i] (getItem o i) := fun o i => by
    cases slice <;> first | rfl | cases hn
  have hd := deref_sound R hx
  rcases hp.both with ⟨l, k, e1, e2, hp⟩ | hp
  · obtain ⟨u, rfl⟩ := int_vr e2 hy
    obtain ⟨o, ho, hp⟩ : ∃ o, pickAt l k = some o ∧ PostO C σ g s (some o) Q := by
      cases ho : pickAt l k with
      | none => rw [ho] at hp; exact hp.elim
      | some o => rw [ho] at hp; exact ⟨o, rfl, hp⟩
    refine byC fun hZ => ?_
    obtain ⟨h0, h1, v, h2, rfl⟩ := pickAt_some ho
    refine hZ ?_; clear hZ
    have hlt : k.toNat < l.length := (List.getElem?_eq_some_iff.mp h2).1
    rcases seqOf_eq e1 with e1 | e1
    · rw [e1] at hd
      refine byC fun hZ => ?_
      obtain ⟨p, vs, rfl, hl, hv⟩ := hd
      have hl := isTuple_of hl
      obtain ⟨z, h3, h4⟩ := hv.get h2
      refine hZ ?_; clear hZ
      exact tail_any (o := .ref _) (show s.TypeIs _ "tuple" from let ⟨ob, q1, q2, _⟩ := hl; ⟨ob, q1, q2⟩) PySem.F.slot_tuple_getitem.lookup (PyProof.Rows.getItem_tuple hl (by lia) (by lia) (seqIndex_nat h0 (by rw [hv.size]; exact hlt)) (by simpa using h3) (hp.val (tk := s.toks) R h4)) (hs _ _)
    · rw [e1] at hd
      refine byC fun hZ => ?_
      obtain ⟨p, vs, rfl, hl, hv⟩ := hd
      have hl := isList_of hl
      obtain ⟨z, h3, h4⟩ := hv.get h2
      refine hZ ?_; clear hZ
      exact tail_any hl.typeIs slot_list_getitem.lookup (wpAny_getItem_list hl h0 (by lia) (by simpa using h3) (hp.val (tk := s.toks) R h4)) (hs _ _)
  · rcases hp.both with ⟨z, k, e1, e2, hp⟩ | hp
    · refine byC fun hZ => ?_
      obtain ⟨u, rfl⟩ := int_vr e2 hy
      obtain ⟨t, rfl⟩ := str_vr e1 hx
      refine hZ ?_; clear hZ
      unfold signOf at hp
      split at hp
      · rename_i h0
        cases hc : z.cps[k.toNat]? with
        | none => rw [hc] at hp; exact hp.elim
        | some c =>
          rw [hc] at hp
          have hlt : k.toNat < z.length := (Array.getElem?_eq_some_iff.mp hc).1
          refine tail_any (typeIs_str s z t) PySem.F.slot_str_getitem.lookup (PyProof.Rows.getItem_str (c := c) ?_ ?_ (hp.val R (.str ..))) (hs _ _)
          · rw [decide_eq_false (by lia), decide_eq_false (by lia)]; rfl
          · rw [seqIndex_nat h0.1 hlt]; exact hc
      · exact hp.elim
    · rcases hp.both with ⟨l, k, e1, e2, hp⟩ | hp
      · obtain ⟨u, rfl⟩ := str_vr e2 hy
        rw [dctOf_eq e1] at hd
        refine byC fun hZ => ?_
        obtain ⟨p, kvs, rfl, _, hl, hv⟩ := hd
        refine hZ ?_; clear hZ
        have := hv.get k
        cases ho : dget l k with
        | none => rw [ho] at hp; exact hp.elim
        | some v =>
          rw [ho] at hp this
          obtain ⟨z, h1, h2⟩ := this
          exact tail_any hl.typeIs slot_dict_getitem.lookup (wpAny_getItem_of (strKind_is C.prog C.w k u) hl.mapOf h1 (hp.val R h2)) (hs _ _)
      · exact hp.elim
end Mine

set_option autoImplicit false
set_option backward.match.sparseCases true
namespace Mine
open PySem PyProof.Rows PySem.SeqAt

variable {C : Fix} {σ : AH} {g g' : Cfg} {h h' : Heap} {s s' : Shared} {own : Addr → Prop} {A : Around} {d : Nat}
  {Q : Value → Shared → Prop} {E : Value → Shared → Prop}

theorem vrd_keys {l : List (Str × PV)} {kvs : List (Str × Value)} (hv : C.VRd g h l kvs) {i : Nat} {k : Str} {x z : Value} (h1 : kvs[i]? = some (k, x)) (h2 : (strKind C.prog C.w).is k z = true) {u : PV}
    (h3 : (l.map fun kv => PV.str kv.1)[i]? = some u) : C.VR g h u z := by
  obtain ⟨t, rfl⟩ := Value.isStrOf_shape h2
  have hk := hv.keys
  have e1 : (kvs.map (·.1))[i]? = some k := by rw [List.getElem?_map, h1]; rfl
  rw [hk, List.getElem?_map] at e1
  rw [List.getElem?_map] at h3
  cases hq : l[i]? with
  | none => rw [hq] at h3; cases h3
  | some p =>
    rw [hq] at h3 e1
    simp only [Option.map_some, Option.some.injEq] at h3 e1
    subst h3 e1
    exact .str ..

theorem ints_get {lo hi : Int} {i : Nat} {u : PV} (h : (rngInts lo hi)[i]? = some u) : u = .int (lo + i) := by
  unfold rngInts at h
  rw [List.getElem?_map] at h
  cases hq : (List.range (hi - lo).toNat)[i]? with
  | none => rw [hq] at h; cases h
  | some p =>
    rw [hq] at h
    have hlt := (List.getElem?_eq_some_iff.mp hq).1
    have : p = i := by simpa using ((List.getElem?_eq_some_iff.mp hq).2).symm
    subst this
    simpa using h.symm
theorem ints_len (lo hi : Int) : (rngInts lo hi).length = (hi - lo).toNat := by simp [rngInts]

theorem walks_len {prog : Program} {w : World} {I : Addr} {fp wr : List Addr} {n m : Nat} {P : Nat → Value → Prop} {St : Nat → Heap → Prop} (e : n = m) (W : Walks prog w A I fp wr n P St) : Walks prog w A I fp wr m P St := by subst e; exact W

noncomputable def PlainIter (h : Heap) (I : Addr) : Prop := ∃ ob n, h.get? I = some ob ∧ ob.cls = .type n ∧ ["enumerate", "zip", "dict_itemiterator", "dict_reverseitemiterator", "odict_iterator", "itertools.zip_longest", "itertools.pairwise"].contains n = false
theorem pyIter_sound (hh : A.handled = none) (R : C.Rel σ g s.heap) {v : PV} {x : Value} {l : List PV} (hv : C.VR g s.heap v x) (hi : items σ v = some l)
    (hq : ∀ (o : Obj) (fp : List Addr) (P : Nat → Value → Prop) (St : Nat → Heap → Prop), Walks C.prog C.w A s.heap.objs.size fp [s.heap.objs.size] l.length P St → St 0 (s.heap.push o) → (∀ b ∈ fp, b = s.heap.objs.size ∨ x = .ref b) → (∀ i z u, P i z → l[i]? = some u → C.VR g s.heap u z) → (∀ i h, St i h → PlainIter h s.heap.objs.size) → Q (.ref s.heap.objs.size) { s with heap := s.heap.push o }) :
    wpAny (model C.prog C.w) A (pyIter x) Q E s := by
  have ne : ∀ {a : Addr} {o : Obj}, s.heap.get? a = some o → a ≠ s.heap.objs.size := fun e => Nat.ne_of_lt (Heap.lt_size e)
  have list : ∀ {a : Addr} {vs : Array Value} {r : List PV}, x = .ref a → r = l → s.heap.IsList a vs → C.VRs g s.heap r vs.toList → wpAny (model C.prog C.w) A (pyIter x) Q E s := by
    rintro a vs r rfl rfl hl hr
    obtain ⟨o, ho, hrest⟩ := id hl
    refine wpAny_pyIter_list hl (hq _ [s.heap.objs.size, a] _ _ (walks_len hr.size (Walks.list hh s.heap.objs.size a (ne ho) vs)) ⟨⟨_, Heap.get?_push_size _ rfl, rfl, rfl⟩, hl.push _⟩ (fun b hb => ?_) (fun i z u h1 h2 => ?_) (fun i h st => by obtain ⟨⟨ob, q1, q2, _⟩, _⟩ := st; exact ⟨ob, _, q1, q2, by decide⟩))
    · rcases List.mem_cons.mp hb with e | e
      · exact .inl e
      · exact .inr (by rw [List.mem_singleton.mp e])
    · obtain ⟨y, h3, h4⟩ := hr.get h2
      have h1' : vs.toList[i]? = some z := by simpa using h1
      rw [h1'] at h3; cases h3; exact h4
  have dict : ∀ {a : Addr} {kvs : List (Str × Value)} {r : List (Str × PV)}, x = .ref a → (r.map fun kv => PV.str kv.1) = l → a ≠ sysModules → s.heap.DictOf (strKind C.prog C.w) a kvs → C.VRd g s.heap r kvs → wpAny (model C.prog C.w) A (pyIter x) Q E s := by
    rintro a kvs r rfl rfl hm hl hr
    obtain ⟨ep, hd⟩ := hl.dictAt
    obtain ⟨o, es, ho, hrest⟩ := id hd
    have hlen : kvs.length = (r.map fun kv => PV.str kv.1).length := by rw [List.length_map, hr.length]
    refine wpAny_pyIter_dict (by simpa using hm) hd (hq _ [s.heap.objs.size, a] _ _ (walks_len hlen (Walks.dictKeys hh s.heap.objs.size a (ne ho) kvs ep)) ⟨⟨_, Heap.get?_push_size _ rfl, rfl, rfl⟩, hd.keep fun b o e => Heap.get?_push_of_some _ e⟩ (fun b hb => ?_) (fun i z u h1 h2 => ?_) (fun i h st => by obtain ⟨⟨ob, q1, q2, _⟩, _⟩ := st; exact ⟨ob, _, q1, q2, by decide⟩))
    · rcases List.mem_cons.mp hb with e | e
      · exact .inl e
      · exact .inr (by rw [List.mem_singleton.mp e])
    · obtain ⟨k, y, h3, h4⟩ := h1
      exact vrd_keys hr h3 h4 h2
  have hd := deref_sound R hv
  have hi : itemsD (deref σ v) = some l := hi
  generalize deref σ v = w at hd hi
  cases w with
  | str y =>
    obtain ⟨t, rfl⟩ := hd
    have hi : signs y = l := Option.some.inj hi
    have hlen : y.cps.size = l.length := by rw [← hi]; simp [signs]
    have hP : ∀ (i : Nat) z u, SignAt y i z → l[i]? = some u → C.VR g s.heap u z := fun i z u h1 h2 => by
      obtain ⟨c, t', h3, rfl⟩ := h1
      rw [← hi] at h2
      have : u = .str ⟨#[c]⟩ := by
        simp only [signs, List.getElem?_map, Array.getElem?_toList, h3, Option.map_some, Option.some.injEq] at h2
        exact h2.symm
      subst this; exact .str ..
    cases ha : y.cps.all (· < 128)
    · exact wpAny_pyIter_wide ha (hq _ [s.heap.objs.size] _ _ (walks_len hlen (Walks.strWide hh _ y t)) ⟨_, Heap.get?_push_size _ rfl, rfl, rfl⟩ (fun b hb => .inl (List.mem_singleton.mp hb)) hP fun i h st => by obtain ⟨ob, q1, q2, _⟩ := st; exact ⟨ob, _, q1, q2, by decide⟩)
    · exact wpAny_pyIter_ascii ha (hq _ [s.heap.objs.size] _ _ (walks_len hlen (Walks.strAscii hh _ y t)) ⟨_, Heap.get?_push_size _ rfl, rfl, rfl⟩ (fun b hb => .inl (List.mem_singleton.mp hb)) hP fun i h st => by obtain ⟨ob, q1, q2, _⟩ := st; exact ⟨ob, _, q1, q2, by decide⟩)
  | tup r =>
    obtain ⟨a, vs, rfl, hl, hr⟩ := hd
    have hl := isTuple_of hl
    have hi : r = l := Option.some.inj hi
    subst hi
    obtain ⟨o, ho, hrest⟩ := id hl
    refine wpAny_pyIter_tuple hl (hq _ [s.heap.objs.size, a] _ _ (walks_len hr.size (Walks.tuple hh s.heap.objs.size a (ne ho) vs)) ⟨⟨_, Heap.get?_push_size _ rfl, rfl, rfl⟩, hl.push _⟩ (fun b hb => ?_) (fun i z u h1 h2 => ?_) (fun i h st => by obtain ⟨⟨ob, q1, q2, _⟩, _⟩ := st; exact ⟨ob, _, q1, q2, by decide⟩))
    · rcases List.mem_cons.mp hb with e | e
      · exact .inl e
      · exact .inr (by rw [List.mem_singleton.mp e])
    · obtain ⟨y, h3, h4⟩ := hr.get h2
      have h1' : vs.toList[i]? = some z := by simpa using h1
      rw [h1'] at h3; cases h3; exact h4
  | lst r => obtain ⟨a, vs, rfl, hl, hr⟩ := hd; exact list rfl (Option.some.inj hi) (isList_of hl) hr
  | dct r => obtain ⟨a, vs, rfl, hm, hl, hr⟩ := hd; exact dict rfl (Option.some.inj hi) hm hl hr
  | rng lo hi' =>
    obtain ⟨a, rfl, b1, b2, t, u, w', hr⟩ := hd
    have hi : rngInts lo hi' = l := Option.some.inj hi
    subst hi
    have hsz := rangeSize_one lo hi'
    refine wpAny_pyIter_range hr (small_one (by lia) (by lia) (by lia) (by lia)) (hq _ [s.heap.objs.size] _ _ (walks_len (ints_len lo hi').symm (Walks.range hh s.heap.objs.size lo 1 (hi' - lo).toNat)) ?_ (fun b hb => .inl (List.mem_singleton.mp hb)) (fun i z y h1 h2 => ?_) (fun i h st => ⟨_, _, st, rfl, by decide⟩))
    · show IsRangeIter _ _ (lo + ((0 : Nat) : Int) * 1) (((hi' - lo).toNat : Int) - ((0 : Nat) : Int)) 1
      have e1 : lo + ((0 : Nat) : Int) * 1 = lo := by simp
      have e2 : (((hi' - lo).toNat : Int) - ((0 : Nat) : Int)) = Builtin.Range.rangeSize lo hi' 1 := by rw [hsz]; split <;> (first | exact om243 (by assumption) | exact om244 (by assumption))
      rw [e1, e2]
      exact Heap.get?_push_size _ rfl
    · obtain ⟨t', rfl⟩ := h1
      rw [ints_get h2, Int.mul_one]
      exact .int ..
  | _ => cases hi
end Mine

set_option autoImplicit false
set_option backward.match.sparseCases true
namespace Mine
open PySem PyProof.Rows PySem.SeqAt

variable {C : Fix} {σ : AH} {g g' : Cfg} {h h' : Heap} {s s' : Shared} {own : Addr → Prop} {A : Around} {d : Nat}
  {Q : Value → Shared → Prop} {E : Value → Shared → Prop}

noncomputable def Ty.val : Ty → Value
  | .int => .type "int" | .bool => .type "bool" | .str => .type "str" | .tuple => .type "tuple" | .list => .type "list" | .dict => .type "dict"

theorem isList_cls {h : Heap} {a : Addr} {vs : Array Value} (x : h.IsList a vs) : ∃ o, h.get? a = some o ∧ o.cls = .type "list" := let ⟨o, h1, h2, _⟩ := x; ⟨o, h1, h2⟩
theorem isTuple_cls {h : Heap} {a : Addr} {vs : Array Value} (x : h.IsTuple a vs) : ∃ o, h.get? a = some o ∧ o.cls = .type "tuple" := let ⟨o, h1, h2, _⟩ := x; ⟨o, h1, h2⟩
theorem dictOf_cls {prog : Program} {w : World} {h : Heap} {a : Addr} {kvs : List (Str × Value)} (x : h.DictOf (strKind prog w) a kvs) : ∃ o, h.get? a = some o ∧ o.cls = .type "dict" := let ⟨o, _, _, h1, h2, _⟩ := x; ⟨o, h1, h2.1⟩

theorem isinst_sound (R : C.Rel σ g s.heap) {t : Ty} {v : PV} {x : Value} {r : Bool} (hv : C.VR g s.heap v x) (he : isTy σ t v = some r) (hq : ∀ tk, Q (.bool r) { s with toks := tk }) :
    wpAny (model C.prog C.w) A (call (.builtin "isinstance") [x, t.val]) Q E s := by
  have hd := deref_sound R hv
  have he : isTyD t (deref σ v) = some r := he
  generalize deref σ v = w at hd he
  cases w with
  | none => cases hd; cases he; cases t <;> first | exact IsiPair.NoneType_int (hq _) | exact IsiPair.NoneType_bool (hq _) | exact IsiPair.NoneType_str (hq _) | exact IsiPair.NoneType_tuple (hq _) | exact IsiPair.NoneType_list (hq _) | exact IsiPair.NoneType_dict (hq _)
  | bool b => cases hd; cases he; cases t <;> first | exact IsiPair.bool_int (hq _) | exact IsiPair.bool_bool (hq _) | exact IsiPair.bool_str (hq _) | exact IsiPair.bool_tuple (hq _) | exact IsiPair.bool_list (hq _) | exact IsiPair.bool_dict (hq _)
  | int i => obtain ⟨u, rfl⟩ := hd; cases he; cases t <;> first | exact IsiPair.int_int (hq _) | exact IsiPair.int_bool (hq _) | exact IsiPair.int_str (hq _) | exact IsiPair.int_tuple (hq _) | exact IsiPair.int_list (hq _) | exact IsiPair.int_dict (hq _)
  | str y => obtain ⟨u, rfl⟩ := hd; cases he; cases t <;> first | exact IsiPair.str_int (hq _) | exact IsiPair.str_bool (hq _) | exact IsiPair.str_str (hq _) | exact IsiPair.str_tuple (hq _) | exact IsiPair.str_list (hq _) | exact IsiPair.str_dict (hq _)
  | tup l =>
    refine byC fun hZ => ?_
    obtain ⟨a, vs, rfl, hl, hr⟩ := hd
    obtain ⟨o, h1, h2⟩ := isTuple_cls (isTuple_of hl)
    refine hZ ?_; clear hZ
    cases he
    cases t <;> first | exact IsiPair.tuple_int h1 h2 (hq _) | exact IsiPair.tuple_bool h1 h2 (hq _) | exact IsiPair.tuple_str h1 h2 (hq _) | exact IsiPair.tuple_tuple h1 h2 (hq _) | exact IsiPair.tuple_list h1 h2 (hq _) | exact IsiPair.tuple_dict h1 h2 (hq _)
  | lst l =>
    refine byC fun hZ => ?_
    obtain ⟨a, vs, rfl, hl, hr⟩ := hd
    obtain ⟨o, h1, h2⟩ := isList_cls (isList_of hl)
    refine hZ ?_; clear hZ
    cases he
    cases t <;> first | exact IsiPair.list_int h1 h2 (hq _) | exact IsiPair.list_bool h1 h2 (hq _) | exact IsiPair.list_str h1 h2 (hq _) | exact IsiPair.list_tuple h1 h2 (hq _) | exact IsiPair.list_list h1 h2 (hq _) | exact IsiPair.list_dict h1 h2 (hq _)
  | dct l =>
    refine byC fun hZ => ?_
    obtain ⟨a, vs, rfl, hm, hl, hr⟩ := hd
    obtain ⟨o, h1, h2⟩ := dictOf_cls hl
    refine hZ ?_; clear hZ
    cases he
    cases t <;> first | exact IsiPair.dict_int h1 h2 (hq _) | exact IsiPair.dict_bool h1 h2 (hq _) | exact IsiPair.dict_str h1 h2 (hq _) | exact IsiPair.dict_tuple h1 h2 (hq _) | exact IsiPair.dict_list h1 h2 (hq _) | exact IsiPair.dict_dict h1 h2 (hq _)
  | _ => cases he

theorem len_sound (R : C.Rel σ g s.heap) {v : PV} {x : Value} {n : Nat} (hv : C.VR g s.heap v x) (he : lenP σ v = some n) (hn : n ≤ 1000000) (hq : ∀ t tk, Q (.int n t) { s with toks := tk }) :
    wpAny (model C.prog C.w) A (call (.builtin "len") [x]) Q E s := by
  have hd := deref_sound R hv
  have he : lenD (deref σ v) = some n := he
  generalize deref σ v = w at hd he
  cases w with
  | str y => obtain ⟨t, rfl⟩ := hd; cases he; exact PyProof.Rows.len_str (by lia) (hq _ _)
  | tup l =>
    refine byC fun hZ => ?_
    obtain ⟨a, vs, rfl, hl, hr⟩ := hd
    refine hZ ?_; clear hZ
    cases he
    have h4 := hr.size
    exact PyProof.Rows.len_tuple (isTuple_of hl) (by lia) (by rw [h4]; exact hq _ _)
  | lst l =>
    refine byC fun hZ => ?_
    obtain ⟨a, vs, rfl, hl, hr⟩ := hd
    refine hZ ?_; clear hZ
    cases he
    have h4 := hr.size
    exact Calls.call_len_list (isList_of hl) (by lia) (by rw [h4]; exact hq _ _)
  | dct l =>
    refine byC fun hZ => ?_
    obtain ⟨a, kvs, rfl, hm, hl, hr⟩ := hd
    refine hZ ?_; clear hZ
    cases he
    have h4 := hr.length
    exact call_len_dict (by simpa using hm) hl (by lia) (by rw [← h4]; exact hq _ _)
  | _ => cases he

/-- a new object somewhere behind: frozen -/
theorem PostO.newAt {v : PV} {x : Value} (hp : PostO C σ g s (some (.v v)) Q) (R : C.Rel σ g s.heap) {a : Addr} {h' : Heap} {tk : Nat} (hk : ∀ b o, s.heap.get? b = some o → h'.get? b = some o) (ha : s.heap.get? a = none) (hl : (h'.get? a).isSome = true)
    (hv : C.VR (g.frz a) h' v x) : Q x { s with heap := h', toks := tk } :=
  hp (g.frz a) _ _ ((Ext.all hk).frz ha) ((R.kept (.of_all hk)).frz (R.fresh ha).1 hl) hv
theorem PostO.madeAt {f : Frs} (hp : PostO C σ g s (some (.f f)) Q) (R : C.Rel σ g s.heap) {a : Addr} {h' : Heap} {tk : Nat} {dr : Drawn} (hk : ∀ b o, s.heap.get? b = some o → h'.get? b = some o) (ha : s.heap.get? a = none)
    (hr : FrsR C g h' f a) : Q (.ref a) { s with heap := h', drawn := dr, toks := tk } :=
  hp g _ _ (Ext.all hk) (R.kept (.of_all hk)) ⟨_, rfl, ha, (R.fresh ha).1, (R.fresh ha).2, hr⟩

theorem asSeq_cases {v : PV} {l : List PV} (hl : asSeq σ v = some l) : v = .tup l ∨ asList σ v = some l := by
  cases v with
  | tup r => exact .inl (congrArg PV.tup (Option.some.inj hl))
  | ref i =>
    refine .inr ?_
    have hl : seqOf (derefO σ[i]?) = some l := hl
    show lstOf (derefO σ[i]?) = some l
    generalize σ[i]? = o at hl
    rcases o with _ | (_ | _) <;> exact hl
  | _ => exact .inr hl
theorem tuple_sound (R : C.Rel σ g s.heap) {v : PV} {x : Value} {l : List PV} (hv : C.VR g s.heap v x) (he : asSeq σ v = some l) (hn : l.length ≤ 1000000) (hp : PostO C σ g s (some (.v (.tup l))) Q) :
    wpAny (model C.prog C.w) A (call (.type "tuple") [x]) Q E s := by
  rcases asSeq_cases he with rfl | he
  · have hv0 := hv
    obtain ⟨a, vs, rfl, h1, h2⟩ := VR_inv hv
    exact call_tuple_same (isTuple_of h1) (hp.val (tk := s.toks) R hv0)
  · refine byC fun hZ => ?_
    obtain ⟨a, vs, rfl, h2, h3⟩ := asList_sound R he hv
    refine hZ ?_; clear hZ
    have h4 := h3.size
    refine call_tuple_list h2 (fun h' hk => ?_) (by rw [h4, sizeLine_eq]; exact om250 hn)
    have hk' : ∀ b o, s.heap.get? b = some o → (h'.push { cls := .type "tuple", data := .seq vs }).get? b = some o := fun b o e => Heap.get?_push_of_some _ (hk b o e)
    have hnone : s.heap.get? h'.objs.size = none := by
      cases hq : s.heap.get? h'.objs.size with
      | none => rfl
      | some o => exact absurd (Heap.lt_size (hk _ _ hq)) (Nat.lt_irrefl _)
    refine hp.newAt (tk := s.toks) R hk' hnone (isSome_of (Heap.get?_push_size _ rfl)) (.tup (.inr rfl) ⟨_, Heap.get?_push_size _ rfl⟩ (VRs_frz (C := C) (VRs_kept (C := C) (.of_all hk') h3)))

theorem vrs_of_items {l : List PV} {acc : Array Value} {P : Nat → Value → Prop} (hi : ItemsOf P acc l.length) (hP : ∀ i z u, P i z → l[i]? = some u → C.VR g h u z) : C.VRs g h l acc.toList := by
  obtain ⟨h1, h2⟩ := hi
  have key : ∀ (l : List PV) (xs : List Value), l.length = xs.length → (∀ (i : Nat) u z, l[i]? = some u → xs[i]? = some z → C.VR g h u z) → C.VRs g h l xs := by
    intro l
    induction l with
    | nil => intro xs hl _; cases xs with | nil => exact .nil | cons => cases hl
    | cons a l ih => intro xs hl hh; cases xs with
      | nil => cases hl
      | cons x xs => exact .cons (hh 0 a x rfl rfl) (ih xs (by simpa using hl) fun i u z e1 e2 => hh (i + 1) u z (by simpa using e1) (by simpa using e2))
  exact key l acc.toList (by simp [h1]) fun i u z e1 e2 => hP i z u (h2 i z (by simpa using e2)) e1

theorem list_sound (hA : AOK A d) (R : C.Rel σ g s.heap) {v : PV} {x : Value} {l : List PV} (hd : VRi C g s.heap v x) (he : itemsD v = some l) (hn : l.length ≤ 1000000) (hstr : ∀ y, v ≠ .str y) (hp : PostO C σ g s (some (.f (.list l))) Q) :
    wpAny (model C.prog C.w) A (call (.type "list") [x]) Q E s := by
  have seq : ∀ {a : Addr} {vs : Array Value}, (s.heap.IsList a vs ∨ s.heap.IsTuple a vs) → C.VRs g s.heap l vs.toList → wpAny (model C.prog C.w) A (call (.type "list") [.ref a]) Q E s := by
    intro a vs h1 h2
    have h4 := h2.size
    have fin : ∀ h' c', (∀ b o', s.heap.get? b = some o' → h'.get? b = some o') → h'.get? s.heap.objs.size = some { cls := .type "list", dict := none, data := .seq vs c', slots := #[] } → Q (.ref s.heap.objs.size) { s with heap := h' } :=
      fun h' c' hk hx => hp.madeAt (tk := s.toks) R hk (get?_size _) ⟨vs, ⟨c', hx⟩, VRs_kept (C := C) (.of_all hk) h2⟩
    rcases h1 with ⟨o, ho, hc, n, hd⟩ | ⟨o, ho, hc, n, hd⟩
    · exact call_list_seq a (T := "list") (.inl rfl) ho hc hd fin (by rw [h4, sizeLine_eq]; exact om250 hn)
    · exact call_list_seq a (T := "tuple") (.inr rfl) ho hc hd fin (by rw [h4, sizeLine_eq]; exact om250 hn)
  have dict : ∀ {a : Addr} {kvs : List (Str × Value)} {r : List (Str × PV)}, (r.map fun kv => PV.str kv.1) = l → a ≠ sysModules → s.heap.DictOf (strKind C.prog C.w) a kvs → C.VRd g s.heap r kvs → wpAny (model C.prog C.w) A (call (.type "list") [.ref a]) Q E s := by
    rintro a kvs r rfl hm hl hr
    obtain ⟨ep, hd⟩ := hl.dictAt
    have h4 : kvs.length = (r.map fun kv => PV.str kv.1).length := by rw [List.length_map, hr.length]
    refine PySem.W.kdl_call (PySem.W.kdl_dict (ep := ep) (kvs := kvs) (by simpa using hm)) hA.hand hd (by rw [h4, sizeLine_eq]; exact om250 hn) fun h' tk acc c' hk hx hi => ?_
    rw [h4] at hi
    refine hp.madeAt (tk := tk) R hk (get?_size _) ⟨acc, ⟨c', hx⟩, VRs_kept (C := C) (.of_all hk) (vrs_of_items hi fun i z u h1 h2 => ?_)⟩
    obtain ⟨k, y, h3, h5⟩ := h1
    exact vrd_keys hr h3 h5 h2
  cases v with
  | str y => exact absurd rfl (hstr y)
  | tup r => obtain ⟨a, vs, rfl, hl, hr⟩ := hd; cases (show r = l from Option.some.inj he); exact seq (.inr (isTuple_of hl)) hr
  | lst r => obtain ⟨a, vs, rfl, hl, hr⟩ := hd; cases (show r = l from Option.some.inj he); exact seq (.inl (isList_of hl)) hr
  | dct r => obtain ⟨a, kvs, rfl, hm, hl, hr⟩ := hd; exact dict (Option.some.inj he) hm hl hr
  | rng lo hi =>
    refine byC fun hZ => ?_
    obtain ⟨a, rfl, b1, b2, t, u, w', hr⟩ := hd
    refine hZ ?_; clear hZ
    cases (show rngInts lo hi = l from Option.some.inj he)
    have hlen := ints_len lo hi
    refine call_list_range hA.hand hr (small_one (by omega) (by omega) (by omega) (by omega)) (n := (rngInts lo hi).length) (by rw [rangeSize_one, hlen]; split <;> (first | exact om248 (by assumption) | exact om249 (by assumption))) (by omega) fun h' tk acc c' hk hx hi' => ?_
    refine hp.madeAt (tk := tk) R hk (get?_size _) ⟨acc, ⟨c', hx⟩, VRs_kept (C := C) (.of_all hk) (vrs_of_items hi' fun i z y h1 h2 => ?_)⟩
    obtain ⟨t', rfl⟩ := h1
    rw [ints_get h2, Int.mul_one]; exact .int ..
  | _ => cases he

end Mine

set_option autoImplicit false
set_option backward.match.sparseCases true
namespace Mine
open PySem PyProof.Rows PySem.SeqAt

variable {C : Fix} {σ : AH} {g g' : Cfg} {h h' : Heap} {s s' : Shared} {own : Addr → Prop} {A : Around} {d : Nat}
  {Q : Value → Shared → Prop} {E : Value → Shared → Prop}

theorem PostO.valAt {v : PV} {x : Value} (hp : PostO C σ g s (some (.v v)) Q) (R : C.Rel σ g s.heap) {h' : Heap} {tk : Nat} (hk : ∀ b o, s.heap.get? b = some o → h'.get? b = some o) (hv : C.VR g h' v x) : Q x { s with heap := h', toks := tk } :=
  hp g _ x (Ext.all hk) (R.kept (.of_all hk)) hv

/-! ### sorting -/
theorem sortedS_pair : ∀ (l : List Str), sortedS l = true → l.Pairwise fun a b => strLt b a = false := by
  have key : ∀ (l : List Str) (p : Str), risingS p l = true → (p :: l).Pairwise fun a b => strLt b a = false := by
    intro l
    induction l with
    | nil => intro p _; simp
    | cons x r ih =>
      intro p hp
      have hp' : (!Spec.ltCps x.cps.toList p.cps.toList && risingS x r) = true := hp
      obtain ⟨h1, h2⟩ := Bool.and_eq_true_iff.mp hp'
      have h3 : strLt x p = false := by
        rw [ltCps_eq] at h1
        simpa [strLt] using h1
      have h4 := ih x h2
      refine List.pairwise_cons.mpr ⟨fun y hy => ?_, h4⟩
      rcases List.mem_cons.mp hy with rfl | hy
      · exact h3
      · have h5 := (List.pairwise_cons.mp h4).1 y hy
        have := strLe_trans (a := p) (b := x) (c := y) (by simp [h3]) (by simp [h5])
        simpa using this
  intro l hl
  cases l with
  | nil => exact .nil
  | cons x r => exact key r x hl
/-- texts of values -/
theorem vrs_strs : ∀ {l : List PV} {r : List Value} {ss : List Str}, C.VRs g h l r → strsOf l = some ss → StrsAre r ss := by
  intro l
  induction l with
  | nil => intro r ss hv hs; cases hv; cases hs; exact .nil
  | cons v l ih =>
    intro r ss hv hs
    cases hv with
    | cons ha hl =>
      refine byC fun hZ => ?_
      obtain ⟨x, h0, hs⟩ := bind_elim (fun o => o = some ss) (fun q => nomatch q) hs
      obtain ⟨ss', h1, rfl⟩ := Option.map_eq_some_iff.mp hs
      obtain ⟨t, rfl⟩ := str_vr h0 ha
      refine hZ ?_; clear hZ
      exact .cons x t (ih hl h1)
theorem strs_vrs : ∀ {r : List Value} {ss : List Str}, StrsAre r ss → C.VRs g h (ss.map .str) r := by
  intro r ss hs
  induction hs with
  | nil => exact .nil
  | cons x t _ ih => exact .cons (.str x t) ih
theorem strsOf_len : ∀ {l : List PV} {ss : List Str}, strsOf l = some ss → ss.length = l.length := by
  intro l
  induction l with
  | nil => intro ss h; cases h; rfl
  | cons v l ih =>
    intro ss h
    refine byC fun hZ => ?_
    obtain ⟨x, h0, hs⟩ := bind_elim (fun o => o = some ss) (fun q => nomatch q) h
    obtain ⟨ss', h1, rfl⟩ := Option.map_eq_some_iff.mp hs
    refine hZ ?_; clear hZ
    exact congrArg Nat.succ (ih h1)


theorem strsOf_keys (r : List (Str × PV)) : strsOf (r.map fun kv => PV.str kv.1) = some (r.map (·.1)) := by
  induction r with
  | nil => rfl
  | cons p r ih => exact congrArg (Option.map (p.1 :: ·)) ih

/-- sort a list of texts -/
theorem list_sort_strs {a : Addr} {vs : List Value} {ss : List Str} {n : Nat} {P : PySem.Fin → Shared → Prop} (ho : s.heap.get? a = some (seqObj "list" vs.toArray n)) (hS : StrsAre vs ss) (h64 : vs.length < sortMost)
    (h : ∀ out, StrsAre out.toList (sortS ss) → P (.done (.ret .none)) { s with heap := sortedHeap s.heap a vs out }) :
    wpAny (model C.prog C.w) A (Builtin.«list.sort» ⟨[.ref a], []⟩) P E s := by
  have fin : ∀ st' : SortSt, (arrOf st').Perm (PyProof.Rows.pairsOf vs) → SortedToK strKind (arrOf st') (PyProof.Rows.pairsOf vs).size → P (.done (.ret .none)) { s with heap := sortedHeap s.heap a vs ((arrOf st').map (·.2)) } := by
    intro st' hp hs
    refine byC fun hZ => ?_
    obtain ⟨ss', h1, h2, h3⟩ := sorted_out_str hS hp hs
    refine hZ ?_; clear hZ
    refine h _ ?_
    rw [sortS_unique h2 (sortedS_pair ss' h3)] at h1
    exact h1
  exact list_sort_treeK strKind_oneLt ho hS.keysOf (fun v₁ v₂ rest e => keyKind_strs (by rw [← e]; exact hS)) h64 fin

theorem sorted_tail (R : C.Rel σ g s.heap) {x : Value} {ss : List Str} (hl : ss.length < sortMost)
    (hc : ∀ (R' : List Value → Shared → Prop), (∀ (h' : Heap) (dr : Drawn) (tk : Nat) (vs : List Value) (ks : List Str), (∀ b o, s.heap.get? b = some o → h'.get? b = some o) → StrsAre vs ks → ks.Perm ss → R' vs { s with heap := h', drawn := dr, toks := tk }) → wpAny (model C.prog C.w) A.in1 (collect x) R' E s)
    (hp : PostO C σ g s (some (.f (.list ((sortS ss).map .str)))) Q) :
    wpAny (model C.prog C.w) A (call (.builtin "sorted") [x]) Q E s := by
  refine Calls.call_function_entry kind_sorted plain_sorted entry_sorted (args_sorted1 _) ?_
  unfold Builtin.«sorted»
  refine wpAny_bind (m := checkCount "sorted" 1 1 _) (wpAny_pure ?_)
  refine wpAny_bind (hc _ fun h' dr tk vs ks hk hS hks => ?_)
  have hlen : vs.length = ss.length := by rw [← hks.length_eq, ← hS.strs, List.length_map]
  have hsame : sortS ks = sortS ss := (sortS_unique ((sortS_perm ks).trans hks) (sortS_sorted ks))
  have h64 : sortMost ≤ 100 := by decide
  refine wpAny_bind (wpAny_newList ?_ (by rw [hlen, sizeLine_eq]; exact om255 hl h64))
  have hoL : (h'.push (seqObj "list" vs.toArray 0)).get? h'.objs.size = some (seqObj "list" vs.toArray 0) := Heap.get?_push_size _ rfl
  have hnone : s.heap.get? h'.objs.size = none := by
    cases hq : s.heap.get? h'.objs.size with
    | none => rfl
    | some o => exact absurd (Heap.lt_size (hk _ _ hq)) (Nat.lt_irrefl _)
  refine wpAny_bind (wpAny_holding (wpAny_call_entry slot_list_sort ⟨_, hoL, rfl⟩ entry_list_sort (list_sort_strs (s := { s with heap := h'.push (seqObj "list" vs.toArray 0), drawn := dr, toks := tk }) hoL hS (by exact om254 hl hlen) fun out a1 => ⟨_, rfl, ?_⟩) (args_list_sort _)))
  have hold : ∀ b o, s.heap.get? b = some o → (sortedHeap (h'.push (seqObj "list" vs.toArray 0)) h'.objs.size vs out).get? b = some o := fun b o e => by
    have h1 := hk b o e
    have h2 := Heap.lt_size h1
    rw [sortedHeap_old (Nat.ne_of_lt h2) (by rw [Heap.size_push]; exact Nat.lt_succ_of_lt h2)]
    exact Heap.get?_push_of_some _ h1
  obtain ⟨e, he⟩ := sortedHeap_at (out := out) hoL
  exact wpAny_pure ⟨_, rfl, hp.madeAt (tk := tk) (dr := dr) R hold hnone ⟨out, ⟨e, he⟩, strs_vrs (hsame ▸ a1)⟩⟩

theorem sorted_sound (hA : AOK A d) (R : C.Rel σ g s.heap) {v : PV} {x : Value} {ss : List Str} (hv : C.VR g s.heap v x) (he : sortArg σ v = some ss) (hl : ss.length < sortMost)
    (hp : PostO C σ g s (some (.f (.list ((sortS ss).map .str)))) Q) :
    wpAny (model C.prog C.w) A (call (.builtin "sorted") [x]) Q E s := by
  have h64 : sortMost ≤ 100 := by decide
  have list : ∀ {a : Addr} {vs : Array Value} {l : List PV}, strsOf l = some ss → s.heap.IsList a vs → C.VRs g s.heap l vs.toList → wpAny (model C.prog C.w) A (call (.builtin "sorted") [.ref a]) Q E s := by
    intro a vs l hs h1 h2
    have hlen := strsOf_len hs
    have h3 := h2.size
    refine sorted_tail R hl (fun R' hR' => ?_) hp
    refine collect_list (vs := vs.toList) (by simpa using h1) (hR' _ s.drawn s.toks _ _ (fun b o e => ?_) (vrs_strs h2 hs) (.refl _)) (by rw [Array.length_toList, h3, sizeLine_eq]; exact om253 hl h64 hlen)
    exact (Heap.get?_update_other _ _ (Ne.symm (Nat.ne_of_lt (Heap.lt_size e)))).trans (Heap.get?_push_of_some _ e)
  have dict : ∀ {a : Addr} {kvs : List (Str × Value)} {r : List (Str × PV)}, (r.map (·.1)) = ss → a ≠ sysModules → s.heap.DictOf (strKind C.prog C.w) a kvs → C.VRd g s.heap r kvs → wpAny (model C.prog C.w) A (call (.builtin "sorted") [.ref a]) Q E s := by
    rintro a kvs r rfl hm h1 hr
    obtain ⟨ep, hd⟩ := h1.dictAt
    have h4 : kvs.length = (r.map fun kv => PV.str kv.1).length := by rw [List.length_map, hr.length]
    have h5 : (r.map fun kv => PV.str kv.1).length = (r.map (·.1)).length := by simp
    refine sorted_tail R hl (fun R' hR' => ?_) hp
    refine PySem.W.kdu_collect (PySem.W.kdl_dict (ep := ep) (kvs := kvs) (by simpa using hm)) hA.hand hd (by rw [h4, h5, sizeLine_eq]; exact om252 h64 hl) fun h' tk acc hk hi => hR' _ s.drawn _ _ _ hk ?_ (.refl _)
    rw [h4] at hi
    refine vrs_strs (C := C) (g := g) (h := s.heap) (vrs_of_items hi fun i z u h1 h2 => by obtain ⟨k, y, h3, h5⟩ := h1; exact vrd_keys hr h3 h5 h2) ?_
    exact strsOf_keys r
  have hd := deref_sound R hv
  have he : sortD (deref σ v) = some ss := he
  generalize deref σ v = w at hd he
  cases w with
  | lst l => obtain ⟨a, vs, rfl, hl', hr⟩ := hd; exact list he (isList_of hl') hr
  | dct l => obtain ⟨a, kvs, rfl, hm, hl', hr⟩ := hd; exact dict (Option.some.inj he) hm hl' hr
  | _ => cases he
end Mine

set_option autoImplicit false
set_option backward.match.sparseCases true
set_option linter.unusedVariables false
namespace Mine
open PySem PyProof.Rows PySem.SeqAt

variable {C : Fix} {σ : AH} {g g' : Cfg} {h h' : Heap} {s s' : Shared} {own : Addr → Prop} {A : Around} {d : Nat}
  {Q : Value → Shared → Prop} {E : Value → Shared → Prop}

/-! ### dict from pairs -/
theorem miss_tuple_keys : typeLookup (.type "tuple") "keys" = pure none := am_miss_of_fast (by decide +kernel)

set_option maxRecDepth 8000 in
theorem getAttrBy_miss_tuple {a : Addr} {xs : Array Value} {tk0 : Tok} {Q : Value → Shared → Prop} (hx : IsTupX s.heap a xs) (hA : A.handled = none)
    (hE : ∀ h' tk e, Heap.NewExcOf s.heap h' e "AttributeError" → E (.ref e) { s with heap := h', toks := tk }) :
    wpAny (model C.prog C.w) A (getAttrBy (.ref a) (.str "keys" tk0) false) Q E s := by
  refine byC fun hZ => ?_
  obtain ⟨k, hx⟩ := hx
  obtain ⟨hp, g, d, tk, os⟩ := s
  refine hZ ?_; clear hZ
  have hT : ∀ tk', (⟨hp, g, d, tk', os⟩ : Shared).TypeIs (.ref a) "tuple" := fun _ => ⟨_, hx, rfl⟩
  have f1 := sub_AttributeError
  have f3 := PySem.F.slot_tuple_getattribute.lookup
  have f4 := PySem.F.slot_tuple_getattribute.bind (.ref a)
  have f5 := am_tuple_getattr_none
  unfold getAttrBy
  repeat (any_goals (first | assumption | exact hT _ | ((with_reducible show wpAny _ _ (call (Value.builtin "tuple.__getattribute__") _ _) _ _ _); refine call_meets PySem.F.slot_tuple_getattribute (hT _) am_entry_tuple_getattribute (PySem.F.args_tuple_getattribute_2 _ _) (meets_getattribute_miss_tuple a xs k #[] "keys" _ miss_tuple_keys (by decide +kernel) (by size_fits)) ⟨hx, hA, fun h' tk' e hx' => ?_⟩) | wp_step))
  refine byC fun hZ => ?_
  obtain ⟨t', u', he⟩ := hx'.there
  refine hZ ?_; clear hZ
  show wpAny _ _ (getattributeRaised _ _ _ _ _ _ _) _ _ _
  unfold getattributeRaised
  repeat (any_goals (first | assumption | wp_step))
  exact hE _ _ _ hx'.of

theorem getAttr?_miss_tuple {a : Addr} {xs : Array Value} {Q : Option Value → Shared → Prop} (hx : IsTupX s.heap a xs) (hA : A.handled = none)
    (hq : ∀ h' tk, (∀ b o, s.heap.get? b = some o → h'.get? b = some o) → Q none { s with heap := h', toks := tk }) :
    wpAny (model C.prog C.w) A (getAttr? (.ref a) "keys") Q E s := by
  unfold getAttr?
  refine wpAny_bind (wpAny_mkText ?_)
  unfold getAttrBy?
  refine wpAny_bind (wpAny_attempt (getAttrBy_miss_tuple (s := { s with toks := s.toks + 1 }) hx hA fun h' tk e he => ?_))
  refine byC fun hZ => ?_
  obtain ⟨o, fs, h1, h2, h3, h4⟩ := he.there
  refine hZ ?_; clear hZ
  refine wpAny_bind (wpAny_isInstance (T := "AttributeError") (b := true) ⟨o, h1, h2⟩ sub_AttributeError ?_)
  exact wpAny_pure (hq h' tk he.keeps)

theorem entry_dict_update_loop : entryFor table "dict.update.loop" = some Builtin.«dict.update.loop» := entryFor_of_tree (by kernel_rfl)
theorem plain_dict_update_loop : plainId "dict.update.loop" = true := by decide +kernel

theorem pairOf_eq {v : PV} {p : Str × PV} (h : pairOf v = some p) : v = .tup [.str p.1, p.2] := by
  unfold pairOf at h
  split at h
  · cases h; rfl
  · cases h
theorem pairsOf_at {l : List PV} {r : List (Str × PV)} (hp : pairsOf l = some r) : l = r.map fun kv => .tup [.str kv.1, kv.2] := by
  induction l generalizing r with
  | nil => cases hp; rfl
  | cons v l ih =>
    refine byC fun hZ => ?_
    obtain ⟨x, h0, hs⟩ := bind_elim (fun o => o = some r) (fun q => nomatch q) hp
    obtain ⟨ss', h1, rfl⟩ := Option.map_eq_some_iff.mp hs
    refine hZ ?_; clear hZ
    rw [pairOf_eq h0, ih h1]; rfl

noncomputable def foldP (d : List (Str × PV)) (l : List (Str × PV)) : List (Str × PV) := l.foldl (fun d kv => dput d kv.1 kv.2) d
theorem dput_len {α : Type} (d : List (Str × α)) (k : Str) (v : α) : (dput d k v).length ≤ d.length + 1 := by
  unfold dput
  split
  · simp
  · simp
theorem dict_loop {I D : Addr} {fp : List Addr} {n : Nat} {P : Nat → Value → Prop} {St : Nat → Heap → Prop} {s₀ : Shared} {R' : Result → Shared → Prop} {r : List (Str × PV)}
    (W : Walks C.prog C.w A.in1 I fp [I] n P St) (hD : D ∉ fp) (hI : s₀.heap.get? I = none) (hDn : s₀.heap.get? D = none) (hID : I ≠ D) (hn : r.length = n) (hb : n ≤ 1000000)
    (hP : ∀ i z u, P i z → r[i]? = some u → C.VR g s₀.heap (.tup [.str u.1, u.2]) z)
    (hR : ∀ h' tk kvs, (∀ b o, s₀.heap.get? b = some o → h'.get? b = some o) → h'.DictOf (strKind C.prog C.w) D kvs → C.VRd g s₀.heap (foldP [] r) kvs → R' (.ok (.ret .none)) { s₀ with heap := h', toks := tk }) :
    ∀ (k i : Nat) (h : Heap) (tk : Nat) (kvs : List (Str × Value)) (dl : List (Str × PV)), n - i = k → i ≤ n → St i h → (∀ b o, s₀.heap.get? b = some o → h.get? b = some o) → h.DictOf (strKind C.prog C.w) D kvs → C.VRd g s₀.heap dl kvs →
      dl.length ≤ i → foldP dl (r.drop i) = foldP [] r → ∀ t0, codeAny (model C.prog C.w) A (.builtin "dict.update.loop" ⟨[.ref D, .ref I, .int i t0, .none], []⟩) R' { s₀ with heap := h, toks := tk } := by
  intro k
  induction k with
  | zero =>
    intro i h tk kvs dl hk hi hst hkeep hdo hvd hlen hf t0
    have hin : i = n := by exact om268 hk hi
    subst hin
    refine codeAny_builtin entry_dict_update_loop ?_
    rw [Around.under_plainId plain_dict_update_loop _]
    show wpAny _ A.in1 (pyNext (.ref I) >>= _) _ _ _
    refine wpAny_bind (W.done _ _ _ hst fun h' tk' hk' => ?_)
    show wpAny _ A.in1 (Builtin.Dict.addKeywords D [] >>= fun _ => ret Value.none) _ _ _
    refine wpAny_bind (wpAny_pure ?_)
    have hd : r.drop i = [] := List.drop_eq_nil_of_le (by exact om267 hn)
    rw [hd] at hf
    refine wpAny_pure (hR h' tk' kvs (fun b o e => hk' b o (fun hm => ?_) (hkeep b o e)) ?_ (by rw [← hf]; exact hvd))
    · rw [List.mem_singleton.mp hm, hI] at e; cases e
    · obtain ⟨o, es, ep, ho, rest⟩ := hdo
      exact ⟨o, es, ep, hk' D o (fun hm => hID (List.mem_singleton.mp hm).symm) ho, rest⟩
  | succ k ih =>
    intro i h tk kvs dl hk hi hst hkeep hdo hvd hlen hf t0
    have hlt : i < n := by exact om266 hk
    obtain ⟨u, hu⟩ : ∃ u, r[i]? = some u := ⟨r[i]'(by exact om265 hn hlt), by simp⟩
    refine codeAny_builtin entry_dict_update_loop ?_
    rw [Around.under_plainId plain_dict_update_loop _]
    show wpAny _ A.in1 (pyNext (.ref I) >>= _) _ _ _
    refine wpAny_bind (W.item i _ _ _ hlt hst fun z h' tk' hz hst' hk' => ?_)
    have hkeep' : ∀ b o, s₀.heap.get? b = some o → h'.get? b = some o := fun b o e => hk' b o (fun hm => by rw [List.mem_singleton.mp hm, hI] at e; cases e) (hkeep b o e)
    have hdo' : h'.DictOf (strKind C.prog C.w) D kvs := by
      obtain ⟨o, es, ep, ho, rest⟩ := hdo
      exact ⟨o, es, ep, hk' D o (fun hm => hID (List.mem_singleton.mp hm).symm) ho, rest⟩
    have hv := hP i z u hz hu
    cases hv with
    | @tup _ p vs h0 hl hr =>
      have hvs : ∃ x t, vs = #[.str u.1 t, x] ∧ C.VR g s₀.heap u.2 x := by
        obtain ⟨ws⟩ := vs
        cases hr with | cons a b => cases a; cases b with | cons c e => cases e; exact ⟨_, _, rfl, c⟩
      refine byC fun hZ => ?_
      obtain ⟨x, t, rfl, hx⟩ := hvs
      obtain ⟨n', hl'⟩ := hl
      refine hZ ?_; clear hZ
      have hl'' := hkeep' _ _ hl'
      refine wpAny_bind (wpAny_holding ?_)
      show wpAny _ A.in1 (Sem.tryCatch (Builtin.Dict.pairItems (.ref p)) _ >>= _) _ _ _
      refine wpAny_bind (wpAny_tryCatch ?_)
      unfold Builtin.Dict.pairItems
      refine wpAny_bind (wpAny_typeOf (T := "tuple") ⟨_, hl'', rfl⟩ ?_)
      rw [if_pos (by decide)]
      refine wpAny_bind ?_
      unfold seqItems?
      refine wpAny_bind (wpAny_load hl'' (wpAny_pure (wpAny_pure ?_)))
      show wpAny _ A.in1 (holding _ (dictSet D (.str u.1 t) x)) _ _ _
      refine wpAny_holding (wpAny_dictSet_pairs (strKind_is C.prog C.w u.1 t) hdo' (fun h2 hdo2 hsb => ?_) (by rw [← hvd.length, sizeLine_eq]; exact om264 hb hi hlen))
      refine wpAny_pure ⟨plainId_quiet plain_dict_update_loop _, ?_⟩
      have hdrop : r.drop i = u :: r.drop (i + 1) := by
        have := List.getElem?_eq_some_iff.mp hu
        obtain ⟨h1, h2⟩ := this
        rw [← h2]; exact List.drop_eq_getElem_cons h1
      refine ih (i + 1) h2 _ (stored kvs u.1 x) (dput dl u.1 u.2) (by exact om263 hk) (by exact om32 hlt) (W.frame _ _ _ hst' fun b hb o e => ?_) (fun b o e => ?_) hdo2 (hvd.put hx) (Nat.le_trans (dput_len ..) (by exact om262 hlen)) ?_ _
      · rw [hsb.2 b (fun q => hD (q ▸ hb))]; exact e
      · rw [hsb.2 b (fun q => by rw [q, hDn] at e; cases e)]; exact hkeep' b o e
      · rw [← hf, hdrop]; rfl

theorem VR_back (R : C.Rel σ g h) (hk : ∀ b o, h.get? b = some o → h'.get? b = some o) {v : PV} {x : Value} (hv : C.VR g h' v x) : C.VR g h v x :=
  hv.mono (List.prefix_refl _) (fun _ q => q) fun a o ha e => by
    obtain ⟨o', ho⟩ := Option.isSome_iff_exists.mp (R.rel.live a ha)
    have := hk a o' ho
    rw [e] at this; cases this; exact ho

theorem dict_pairs (hA : AOK A d) (R : C.Rel σ g s.heap) {l : List PV} {r : List (Str × PV)} {x : Value} (hv : C.VR g s.heap (.tup l) x) (hr : pairsOf l = some r) (hb : r.length ≤ 1000000) (hp : PostO C σ g s (some (.f (.dict (dictOfPairs r)))) Q) :
    wpAny (model C.prog C.w) A (call (.type "dict") [x]) Q E s := by
  have hv0 := hv
  cases hv with
  | @tup _ a vs h0 hl hvs =>
    refine callType_codes (Q₁ := fun obj s₁ => obj = .ref s.heap.objs.size ∧ s₁ = { s with heap := s.heap.push { cls := .type "dict", data := .dict #[] } }) PySem.F.kt_called_dict (PySem.F.kt_typeCall_dict_1 _) PySem.F.entry_dict_init (kt_code_dict_new _ ⟨rfl, rfl⟩) ?_
    rintro obj s₁ ⟨rfl, rfl⟩
    have hnew : (s.heap.push { cls := .type "dict", data := .dict #[] }).DictOf (strKind C.prog C.w) s.heap.objs.size [] := Heap.DictOf.new s.heap
    refine ⟨hnew.typeIs, PySem.F.args_dict_init_2 _ _, ?_⟩
    unfold Builtin.«dict.__init__»
    refine wpAny_bind ?_
    unfold Builtin.Dict.selfAndRest
    refine wpAny_bind (wpAny_notOrdered_dict hnew.typeIs ?_)
    show wpAny _ _ (pure (s.heap.objs.size, [Value.ref a])) _ _ _
    refine wpAny_pure ?_
    show wpAny _ _ (Builtin.Dict.updateFrom "dict.__init__" s.heap.objs.size (.ref a) [] .none) _ _ _
    unfold Builtin.Dict.updateFrom
    have hl1 : IsTupX (s.heap.push { cls := .type "dict", data := .dict #[] }) a vs := let ⟨n, e⟩ := hl; ⟨n, Heap.get?_push_of_some _ e⟩
    refine wpAny_bind (wpAny_typeOf (T := "tuple") (let ⟨n, e⟩ := hl1; ⟨_, e, rfl⟩) ?_)
    rw [if_pos (by decide)]
    have hk1 : ∀ b o, s.heap.get? b = some o → (s.heap.push { cls := .type "dict", data := .dict #[] }).get? b = some o := fun b o e => Heap.get?_push_of_some _ e
    refine wpAny_bind (getAttr?_miss_tuple hl1 hA.hand fun h2 tk2 hk2 => ?_)
    simp only [Option.isNone_none, if_true]
    refine wpAny_bind (wpAny_rule ?_)
    have hdo2 : h2.DictOf (strKind C.prog C.w) s.heap.objs.size [] := by
      obtain ⟨o, es, ep, ho, rest⟩ := hnew
      exact ⟨o, es, ep, hk2 _ _ ho, rest⟩
    have hk02 : ∀ b o, s.heap.get? b = some o → h2.get? b = some o := fun b o e => hk2 b o (hk1 b o e)
    have R2 : C.Rel σ g h2 := R.kept (.of_all hk02)
    refine wpAny_bind (pyIter_sound (A := A.in1.in1) (s := { s with heap := h2, toks := tk2 }) hA.hand R2 (VR_kept (C := C) (.of_all hk02) hv0) rfl fun o fp P St W st hfp hP _ => ?_)
    have hsz1 : s.heap.objs.size < h2.objs.size := let ⟨o, es, ep, ho, rest⟩ := hdo2; Heap.lt_size ho
    have hk3 : ∀ b o', h2.get? b = some o' → (h2.push o).get? b = some o' := fun b o' e => Heap.get?_push_of_some _ e
    have hal : a < s.heap.objs.size := let ⟨n, e⟩ := hl; Heap.lt_size e
    refine wpAny_pure ⟨plainId_quiet plain_dict_update_loop _, ?_⟩
    have hlen : r.length = l.length := by rw [pairsOf_at hr]; simp
    have key := dict_loop (C := C) (g := g) (A := A.in1) (s₀ := s) (r := r) (R' := wants (fun r s₂ => r = Value.none ∧ Q (Value.ref s.heap.objs.size) s₂) E) (I := h2.objs.size) (D := s.heap.objs.size) W (fun hm => ?_) ?_ (get?_size _) (Nat.ne_of_gt hsz1) hlen (by exact om261 hb hlen) (fun i z u hz hu => ?_) (fun h' tk kvs hk' hdo' hvd' => ⟨rfl, ?_⟩) l.length 0 (h2.push o) tk2 [] [] (by exact om260) (by exact om34) st (fun b o' e => hk3 b o' (hk02 b o' e)) ?_ .nil (Nat.le_refl _) rfl 0
    · exact key
    · rcases hfp _ hm with e | e
      · exact absurd e (Nat.ne_of_lt hsz1)
      · cases e; exact absurd hal (Nat.lt_irrefl _)
    · exact none_of_live (s := s) (s' := { s with heap := h2 }) (fun b hb => by obtain ⟨o', e⟩ := Option.isSome_iff_exists.mp hb; exact isSome_of (hk02 b o' e)) (get?_size _)
    · have := hP i z (.tup [.str u.1, u.2]) hz (by rw [pairsOf_at hr, List.getElem?_map, hu]; rfl)
      exact VR_back R hk02 this
    · exact hp.madeAt (tk := tk) R hk' (get?_size _) ⟨kvs, hdo', VRd_kept (C := C) (.of_all hk') hvd'⟩
    · obtain ⟨o', es, ep, ho, rest⟩ := hdo2
      exact ⟨o', es, ep, hk3 _ _ ho, rest⟩

theorem dict_sound (hA : AOK A d) (R : C.Rel σ g s.heap) {v : PV} {x : Value} (hv : C.VR g s.heap v x) (hp : PostO C σ g s (dictD (deref σ v)) Q) :
    wpAny (model C.prog C.w) A (call (.type "dict") [x]) Q E s := by
  have hd := deref_sound R hv
  have tup : ∀ l, deref σ v = .tup l → C.VR g s.heap (.tup l) x := fun l e => by
    cases v with
    | ref i =>
      have e : derefO σ[i]? = .tup l := e
      generalize σ[i]? = o at e
      rcases o with _ | (_ | _) <;> cases e
    | _ => exact e ▸ hv
  generalize deref σ v = w at hd hp tup
  cases w with
  | dct r =>
    refine byC fun hZ => ?_
    obtain ⟨a, kvs, rfl, hm, h1, hr⟩ := hd
    refine hZ ?_; clear hZ
    have hp := PostO.ite hp
    have hs' := hr.length
    refine kt_call_dict (by simpa using hm) h1 (by have := small_le hp.1; rw [← hs', sizeLine_eq]; exact om250 this) fun h' h2 h3 => ?_
    have hk : ∀ b o, s.heap.get? b = some o → h'.get? b = some o := fun b o e => by
      rw [h3.2 b (Nat.ne_of_lt (Heap.lt_size e))]; exact Heap.get?_push_of_some _ e
    exact hp.2.madeAt (tk := s.toks) R hk (get?_size _) ⟨kvs, h2, VRd_kept (C := C) (.of_all hk) hr⟩
  | tup l =>
    refine byC fun hZ => ?_
    obtain ⟨r, e, hp⟩ := PostO.bind hp
    refine hZ ?_; clear hZ
    have hp := hp.ite
    exact dict_pairs hA R (tup l rfl) e (small_le hp.1) hp.2
  | _ => exact hp.elim

theorem preSum_foldl (l : List Int) : ∀ (acc : Int), l.foldl (· + ·) acc = acc + preSum (fun i => l.getD i 0) l.length := by
  intro acc
  have key : ∀ (l : List Int) (acc : Int), l.foldl (· + ·) acc = acc + l.foldl (· + ·) 0 := by
    intro l
    induction l with
    | nil => intro acc; simp
    | cons a l ih => intro acc; rw [List.foldl_cons, List.foldl_cons, ih, ih (0 + a)]; exact om259
  have shift : ∀ (f : Nat → Int) (n : Nat), preSum f (n + 1) = f 0 + preSum (fun i => f (i + 1)) n := by
    intro f n
    induction n with
    | zero => simp [preSum]
    | succ n ih => rw [preSum, ih, preSum]; exact om258
  rw [key]
  congr 1
  induction l with
  | nil => rfl
  | cons a l ih => rw [List.foldl_cons, key, ih, List.length_cons, shift]; simp

theorem intsOf_at {l : List PV} {ns : List Int} (h : intsOf l = some ns) : l = ns.map .int := by
  induction l generalizing ns with
  | nil => cases h; rfl
  | cons v l ih =>
    refine byC fun hZ => ?_
    obtain ⟨x, h0, hs⟩ := bind_elim (fun o => o = some ns) (fun q => nomatch q) h
    obtain ⟨r, h1, rfl⟩ := Option.map_eq_some_iff.mp hs
    refine hZ ?_; clear hZ
    rw [intOf_eq h0, ih h1]; rfl
theorem walks_lim {prog : Program} {w : World} {I : Addr} {fp wr : List Addr} {n : Nat} {P : Nat → Value → Prop} {St : Nat → Heap → Prop} (W : Walks prog w A I fp wr n P St) : Walks prog w A I fp wr n (fun i z => P i z ∧ i < n) St :=
  { W with item := fun i s Q E hi st hQ => W.item i s Q E hi st fun v h' tk hP => hQ v h' tk ⟨hP, hi⟩ }

theorem iter_walk (hh : A.handled = none) (R : C.Rel σ g s.heap) {v : PV} {a : Addr} {vs : Array Value} {l : List PV} (hv : C.VR g s.heap v (.ref a)) (hi : items σ v = some l) (hl : s.heap.IsList a vs)
    (hq : ∀ (o : Obj) (fp : List Addr) (P : Nat → Value → Prop) (St : Nat → Heap → Prop), Walks C.prog C.w A s.heap.objs.size fp [s.heap.objs.size] l.length P St → St 0 (s.heap.push o) → (∀ b ∈ fp, b < (s.heap.push o).objs.size) → (∀ i z, P i z → ∃ u, l[i]? = some u ∧ C.VR g s.heap u z) →
      (∀ h' : Heap, (∀ b o', b ∉ [s.heap.objs.size] → (s.heap.push o).get? b = some o' → h'.get? b = some o') → ∀ b o', s.heap.get? b = some o' → h'.get? b = some o') → Q (.ref s.heap.objs.size) { s with heap := s.heap.push o }) :
    wpAny (model C.prog C.w) A (pyIter (.ref a)) Q E s := by
  refine pyIter_sound hh R hv hi fun o fp P St W st hfp hP _ => hq o fp _ St (walks_lim W) st (fun b hb => ?_) (fun i z hz => ⟨l[i]'hz.2, by simp [hz.2], hP i z _ hz.1 (by simp [hz.2])⟩) fun h' hk b o' e => ?_
  · rw [Heap.size_push]
    rcases hfp b hb with e | e
    · rw [e]; exact Nat.lt_succ_self _
    · cases e
      obtain ⟨o, e, _⟩ := hl
      exact Nat.lt_succ_of_lt (Heap.lt_size e)
  · refine hk b o' (fun hm => ?_) (Heap.get?_push_of_some _ e)
    rw [List.mem_singleton.mp hm] at e
    exact absurd (Heap.lt_size e) (Nat.lt_irrefl _)
theorem sum_sound (hA : AOK A d) (R : C.Rel σ g s.heap) {v : PV} {x : Value} {l : List PV} {ns : List Int} (hv : C.VR g s.heap v x) (h1 : asList σ v = some l) (h2 : intsOf l = some ns) (hp : PostO C σ g s (some (.v (.int (ns.foldl (· + ·) 0)))) Q) :
    wpAny (model C.prog C.w) A (call (.builtin "sum") [x]) Q E s := by
  have h3 := intsOf_at h2
  refine byC fun hZ => ?_
  obtain ⟨a, vs, rfl, hl, _⟩ := asList_sound R h1 hv
  refine hZ ?_; clear hZ
  have hit : items σ v = some l := by
    show itemsD (deref σ v) = some l
    rw [lstOf_eq h1]; rfl
  refine call_sum_walkAnyS (iter_walk (A := A.in1) hA.hand R hv hit hl fun o fp P St W st hfp hP hk => ⟨_, _, _, _, _, _, _, (fun i => ns.getD i 0), rfl, W.toS, st, hfp, ?_, fun s' t' hm => ?_⟩)
  · intro i z hz
    refine byC fun hZ => ?_
    obtain ⟨u, h4, h5⟩ := hP i z hz
    refine hZ ?_; clear hZ
    rw [h3, List.getElem?_map] at h4
    cases hq : ns[i]? with
    | none => rw [hq] at h4; cases h4
    | some n =>
      rw [hq] at h4; cases h4
      obtain ⟨t, rfl⟩ := VR_inv h5
      exact ⟨t, by simp [List.getD, hq]⟩
  · rw [Moved.eq_with hm]
    have h4 := preSum_foldl ns 0
    rw [Int.zero_add, show ns.length = l.length by rw [h3]; simp] at h4
    rw [← h4]
    exact hp.valAt R (hk _ hm.heap) (.int ..)

/-! ### the small ones -/
theorem log2_small {n : Nat} (h : n < 10 ^ 40) : n.log2 < 1920 := by
  by_cases h0 : n = 0
  · subst h0; decide
  · rw [Nat.log2_lt h0]
    exact Nat.lt_trans h (by decide +kernel)

noncomputable def BI.callee : BI → Value
  | .len => .builtin "len" | .sorted => .builtin "sorted" | .tuple => .type "tuple" | .dict => .type "dict" | .str => .type "str" | .range => .type "range" | .isinst _ => .builtin "isinstance"
  | .list => .type "list" | .int => .type "int" | .abs => .builtin "abs" | .range2 => .type "range" | .min2 => .builtin "min" | .sum => .builtin "sum" | .sortedSet => .builtin "sorted"
noncomputable def BI.more : BI → List Value
  | .isinst t => [t.val]
  | _ => []

theorem one_vr {args : List PV} {xs : List Value} {v : PV} (e : one args = some v) (hv : C.VRs g h args xs) : ∃ x, xs = [x] ∧ C.VR g h v x := by
  rcases args with _ | ⟨a, _ | ⟨b, l⟩⟩
  · cases e
  · cases e
    cases hv with | cons h1 h2 => cases h2; exact ⟨_, rfl, h1⟩
  · cases e
theorem pair2_vr {args : List PV} {xs : List Value} {p : PV × PV} (e : pair2 args = some p) (hv : C.VRs g h args xs) : ∃ x y, xs = [x, y] ∧ C.VR g h p.1 x ∧ C.VR g h p.2 y := by
  rcases args with _ | ⟨a, _ | ⟨b, _ | ⟨c, l⟩⟩⟩ <;> cases e
  cases hv with | cons h1 h2 => cases h2 with | cons h2 h3 => cases h3; exact ⟨_, _, rfl, h1, h2⟩
theorem bi_sound (K : C.OK) (hA : AOK A d) (R : C.Rel σ g s.heap) {b : BI} {args : List PV} {xs : List Value} (hv : C.VRs g s.heap args xs) (hns : b ≠ .sortedSet) (hp : PostO C σ g s (biP σ b args) Q) :
    wpAny (model C.prog C.w) A (call b.callee (xs ++ b.more)) Q E s := by
  cases b with
  | len =>
    refine byC fun hZ => ?_
    obtain ⟨v, e, hp⟩ := PostO.bind hp
    obtain ⟨x, rfl, h1⟩ := one_vr e hv
    obtain ⟨n, h3, hp⟩ := hp.bind
    refine hZ ?_; clear hZ
    have hp := hp.ite
    exact len_sound R h1 h3 (small_le hp.1) fun t tk => hp.2.val R (.int ..)
  | sorted =>
    refine byC fun hZ => ?_
    obtain ⟨v, e, hp⟩ := PostO.bind hp
    obtain ⟨x, rfl, h1⟩ := one_vr e hv
    obtain ⟨n, h3, hp⟩ := hp.bind
    refine hZ ?_; clear hZ
    have hp := hp.ite
    exact sorted_sound hA R h1 h3 hp.1 hp.2
  | tuple =>
    refine byC fun hZ => ?_
    obtain ⟨v, e, hp⟩ := PostO.bind hp
    obtain ⟨x, rfl, h1⟩ := one_vr e hv
    obtain ⟨n, h3, hp⟩ := hp.bind
    refine hZ ?_; clear hZ
    have hp := hp.ite
    exact tuple_sound R h1 h3 (small_le hp.1) hp.2
  | dict =>
    refine byC fun hZ => ?_
    obtain ⟨v, e, hp⟩ := PostO.bind hp
    obtain ⟨x, rfl, h1⟩ := one_vr e hv
    refine hZ ?_; clear hZ
    exact dict_sound hA R h1 hp
  | str =>
    refine byC fun hZ => ?_
    obtain ⟨v, e, hp⟩ := PostO.bind hp
    obtain ⟨x, rfl, h1⟩ := one_vr e hv
    obtain ⟨n, h3, hp⟩ := hp.bind
    obtain ⟨t, rfl⟩ := int_vr h3 h1
    refine hZ ?_; clear hZ
    have hp := hp.ite
    exact PySem.P.str_of_int (log2_small hp.1) (hp.2.val R (.str ..))
  | range =>
    refine byC fun hZ => ?_
    obtain ⟨v, e, hp⟩ := PostO.bind hp
    obtain ⟨x, rfl, h1⟩ := one_vr e hv
    obtain ⟨n, h3, hp⟩ := hp.bind
    obtain ⟨t, rfl⟩ := int_vr h3 h1
    refine hZ ?_; clear hZ
    have hp := hp.ite
    exact call_range_1 (hp.2.push R (.rng (.inr rfl) ⟨by decide, hp.1, _, _, _, IsRange.new ..⟩))
  | list =>
    refine byC fun hZ => ?_
    obtain ⟨v, e, hp⟩ := PostO.bind hp
    obtain ⟨x, rfl, h1⟩ := one_vr e hv
    refine hZ ?_; clear hZ
    have hd := deref_sound R h1
    generalize deref σ v = w at hd hp
    have hstr : ∀ y, w ≠ .str y := fun y q => by subst q; exact hp
    have hp : PostO C σ g s ((itemsD w).bind fun l => if small l.length then some (.f (.list l)) else none) Q := by
      cases w with
      | str y => exact absurd rfl (hstr y)
      | _ => exact hp
    refine byC fun hZ => ?_
    obtain ⟨l, e, hp⟩ := hp.bind
    refine hZ ?_; clear hZ
    have hp := hp.ite
    exact list_sound hA R hd e (small_le hp.1) hstr hp.2
  | int =>
    refine byC fun hZ => ?_
    obtain ⟨v, e, hp⟩ := PostO.bind hp
    obtain ⟨x, rfl, h1⟩ := one_vr e hv
    obtain ⟨b, h3, hp⟩ := hp.bind
    refine hZ ?_; clear hZ
    rw [boolOf_eq h3] at h1
    cases (show x = .bool b from VR_inv h1)
    exact call_int_bool (hp.val R (.int ..))
  | abs =>
    refine byC fun hZ => ?_
    obtain ⟨v, e, hp⟩ := PostO.bind hp
    obtain ⟨x, rfl, h1⟩ := one_vr e hv
    obtain ⟨n, h3, hp⟩ := hp.bind
    obtain ⟨t, rfl⟩ := int_vr h3 h1
    refine hZ ?_; clear hZ
    refine call_abs_int fun u tk => ?_
    have := hp.val (tk := tk) R (x := .int _ u) (.int _ u)
    have e : (if n < 0 then -n else n) = (n.natAbs : Int) := by split <;> (first | exact om256 (by assumption) | exact om257 (by assumption))
    rw [e]; exact this
  | range2 =>
    refine byC fun hZ => ?_
    obtain ⟨p, e, hp⟩ := PostO.bind hp
    obtain ⟨x, y, rfl, h1, h2⟩ := pair2_vr e hv
    refine hZ ?_; clear hZ
    rcases hp.both with ⟨i, j, e1, e2, hp⟩ | hp
    · refine byC fun hZ => ?_
      obtain ⟨t, u, rfl, rfl⟩ := ints_vr h1 h2 e1 e2
      refine hZ ?_; clear hZ
      have hp := hp.ite
      exact call_range_2 (hp.2.push R (.rng (.inr rfl) ⟨hp.1.2, hp.1.1, _, _, _, IsRange.new ..⟩))
    · exact hp.elim
  | min2 =>
    refine byC fun hZ => ?_
    obtain ⟨p, e, hp⟩ := PostO.bind hp
    obtain ⟨x, y, rfl, h1, h2⟩ := pair2_vr e hv
    refine hZ ?_; clear hZ
    rcases hp.both with ⟨i, j, e1, e2, hp⟩ | hp
    · refine byC fun hZ => ?_
      obtain ⟨t, u, rfl, rfl⟩ := ints_vr h1 h2 e1 e2
      refine hZ ?_; clear hZ
      refine min_two_ints hA.hand fun h' tk hk => ?_
      split
      · rename_i hc; rw [if_pos hc] at hp; exact hp.valAt R hk (.int ..)
      · rename_i hc; rw [if_neg hc] at hp; exact hp.valAt R hk (.int ..)
    · exact hp.elim
  | sum =>
    refine byC fun hZ => ?_
    obtain ⟨v, e, hp⟩ := PostO.bind hp
    obtain ⟨x, rfl, h1⟩ := one_vr e hv
    obtain ⟨l, h3, hp⟩ := hp.bind
    obtain ⟨ns, h4, hp⟩ := hp.bind
    refine hZ ?_; clear hZ
    have hp := hp.ite
    exact sum_sound hA R h1 h3 h4 hp.2
  | sortedSet => exact absurd rfl hns
  | isinst t =>
    refine byC fun hZ => ?_
    obtain ⟨v, e, hp⟩ := PostO.bind hp
    obtain ⟨x, rfl, h1⟩ := one_vr e hv
    refine hZ ?_; clear hZ
    cases ht : isTy σ t v with
    | none => rw [ht] at hp; exact hp.elim
    | some q => rw [ht] at hp; exact isinst_sound R h1 ht fun tk => hp.val R (.bool ..)
end Mine

set_option autoImplicit false
set_option backward.match.sparseCases true
set_option linter.unusedVariables false
namespace Mine
open PySem PyProof.Rows

/-! ## sets of texts -/
theorem orStandIn_keeps (t : SetTable) (n : Nat) : (t.orStandIn n).led = t.led ∧ (t.plain = false → (t.orStandIn n).plain = false) := by
  unfold SetTable.orStandIn
  split
  · exact ⟨rfl, id⟩
  · exact ⟨rfl, fun _ => rfl⟩
theorem layNew_keeps (t : SetTable) (es : Array (Int × Value)) (h : Int) (x : Value) : (layNew t es h x).2.1.led = t.led ∧ (t.plain = false → (layNew t es h x).2.1.plain = false) := by
  unfold layNew
  split
  · exact orStandIn_keeps ((t.put _).1) _
  · exact ⟨rfl, fun _ => rfl⟩
theorem relayAll_keeps (t : SetTable) (es : Array (Int × Value)) (n : Nat) : (relayAll t es n).2.1.led = t.led ∧ (t.plain = false → (relayAll t es n).2.1.plain = false) := by
  unfold relayAll
  split
  · rename_i t' order e
    dsimp only
    split
    · unfold SetTable.relaid SetTable.laid at e
      cases hl : SetTable.layClean (SetTable.sizeAbove n - 1) (es.map (·.1)) with
      | none => rw [hl] at e; cases e
      | some ow => rw [hl] at e; cases e; exact ⟨rfl, id⟩
    · exact ⟨rfl, fun _ => rfl⟩
  · exact ⟨rfl, fun _ => rfl⟩

variable {prog : Program} {w : World} {A : Around} {E : Value → Shared → Prop} {s : Shared}

/-- the texts of the elements -/
noncomputable def elemStrs (es : Array (Int × Value)) : List Str := es.toList.map fun e => PyProof.Rows.strOf e.2
structure SetData (prog : Program) (w : World) (o : Obj) (es : Array (Int × Value)) (ep : Nat) (t : SetTable) (ss : List Str) (led : Bool) : Prop where
  ex : o.ExactSet
  data : o.data = .set es ep t
  el : ElemsOf (PySem.strKind prog w) es.toList
  perm : (elemStrs es).Perm ss
  small : es.size < scanBound
  fits : t.fits es.size = true
  led : t.led = led
  plain : es.size = 0 ∨ t.plain = false
noncomputable def StrSet (prog : Program) (w : World) (h : Heap) (a : Addr) (ss : List Str) (led : Bool) : Prop := ∃ o es ep t, h.get? a = some o ∧ SetData prog w o es ep t ss led

theorem strKind_shape {k : Str} {v : Value} (h : (PySem.strKind prog w).is k v = true) : ∃ t, v = .str k t := Value.isStrOf_shape h
theorem elem_str {es : List (Int × Value)} (h : ElemsOf (PySem.strKind prog w) es) : StrsAre (es.map (·.2)) (es.map fun e => PyProof.Rows.strOf e.2) := by
  induction es with
  | nil => exact .nil
  | cons e es ih =>
    obtain ⟨⟨k, hk, _⟩, _⟩ := h.head
    obtain ⟨t, ht⟩ := strKind_shape hk
    rw [List.map_cons, List.map_cons, ht]
    exact .cons k t (ih h.tail)
theorem elem_mem {es : List (Int × Value)} (h : ElemsOf (PySem.strKind prog w) es) (k : Str) : (∃ e ∈ es, (PySem.strKind prog w).is k e.2 = true) ↔ k ∈ es.map fun e => PyProof.Rows.strOf e.2 := by
  rw [List.mem_map]
  constructor
  · rintro ⟨e, he, hk⟩
    obtain ⟨t, ht⟩ := strKind_shape hk
    exact ⟨e, he, by rw [ht]; rfl⟩
  · rintro ⟨e, he, hk⟩
    obtain ⟨⟨k', hk', _⟩, _⟩ := h e he
    obtain ⟨t, ht⟩ := strKind_shape hk'
    rw [ht] at hk
    have hkk : k' = k := hk
    exact ⟨e, he, hkk ▸ hk'⟩

theorem addTail {g : Bool → Sem Unit} (hg : ∀ (b : Bool) (s₁ : Shared) (Q' : Unit → Shared → Prop), Q' () s₁ → wpAny (model prog w) A (g b) Q' E s₁)
    {a : Addr} {o : Obj} {es : Array (Int × Value)} {ep : Nat} {t : SetTable} (ho : s.heap.get? a = some o) (hd : o.data = .set es ep t)
    {es1 : Array (Int × Value)} {t2 : SetTable} (hb1 : es1.size < scanBound) (hf2 : t2.fits es1.size = true) {wasDummy : Bool} {R : Option Bool → Shared → Prop}
    (h : ∀ h' es2 t3 ep', Heap.SameBut a s.heap h' → h'.get? a = some { o with data := .set es2 ep' t3 } → es2.toList.Perm es1.toList → t3.fits es2.size = true → t3.led = t2.led → (t2.plain = false → t3.plain = false) → R (some true) { s with heap := h' }) :
    wpAny (model prog w) A (do
        storeSet a es1 t2
        if (!wasDummy && t2.tooFull) = true then do
            g (relayAll t2 es1 (SetTable.grown es1.size)).2.2
            storeSet a (relayAll t2 es1 (SetTable.grown es1.size)).1 (relayAll t2 es1 (SetTable.grown es1.size)).2.1
            pure (some true)
          else pure (some true)) R E s := by
  have put : ∀ {h : Heap} {o' : Obj} {es0 : Array (Int × Value)} {ep0 : Nat} {t0 : SetTable} (es' : Array (Int × Value)) (t' : SetTable), h.get? a = some o' → o'.data = .set es0 ep0 t0 → (h.update a (Obj.putSet es' t')).get? a = some { o' with data := .set es' (ep0 + 1) t' } := by
    intro h o' es0 ep0 t0 es' t' ho' hd'
    have := Heap.get?_update_self (Obj.putSet es' t') ho' (by rw [putSet_of es' t' hd']; rfl)
    rw [putSet_of es' t' hd'] at this; exact this
  refine wpAny_bind (wpAny_storeSet_of ho hd ?_ (fits_of_scanBound hb1))
  have ho1 := put es1 t2 ho hd
  have hsb1 := Heap.SameBut.update s.heap a (Obj.putSet es1 t2)
  split
  · have hp := relayAll_perm t2 es1 (SetTable.grown es1.size)
    have hfr := relayAll_fits t2 es1 (SetTable.grown es1.size)
    have hkp := relayAll_keeps t2 es1 (SetTable.grown es1.size)
    generalize hRl : relayAll t2 es1 (SetTable.grown es1.size) = Rl at hp hfr hkp ⊢
    obtain ⟨es2, t3, gave2⟩ := Rl
    dsimp only at hp hfr hkp ⊢
    have hsz : es2.size = es1.size := by rw [← Array.length_toList, hp.length_eq, Array.length_toList]
    refine wpAny_bind (hg _ _ _ ?_)
    refine wpAny_bind (wpAny_storeSet_of ho1 rfl ?_ (fits_of_scanBound (by rw [hsz]; exact hb1)))
    exact wpAny_pure (h _ es2 t3 _ (hsb1.trans (Heap.SameBut.update _ a _)) (put (o' := { o with data := .set es1 (ep + 1) t2 }) es2 t3 ho1 rfl) hp hfr hkp.1 hkp.2)
  · exact wpAny_pure (h _ es1 t2 _ hsb1 ho1 (.refl _) hf2 rfl id)

/-- one more -/
theorem set_addHashed {a : Addr} {ss : List Str} {led : Bool} {x : Str} {tk : Tok} {Q : Bool → Shared → Prop} (hS : StrSet prog w s.heap a ss led) (hroom : ss.length + 1 < scanBound)
    (h : ∀ h' b, Heap.SameBut a s.heap h' → StrSet prog w h' a (stepS ss x) led → Q b { s with heap := h' }) :
    wpAny (model prog w) A (setAddHashed a (.str x tk) ((PySem.strKind prog w).hash x)) Q E s := by
  obtain ⟨o, es, ep, t, ho, D⟩ := hS
  have hkey : (PySem.strKind prog w).is x (.str x tk) = true := strKind_is prog w x tk
  have hlen : es.size = ss.length := by rw [← D.perm.length_eq, elemStrs, List.length_map, Array.length_toList]
  unfold setAddHashed setAddHashedIn
  refine wpAny_holding (wpAny_bind (wpAny_setState_of ho D.data D.fits ?_))
  dsimp only
  rw [byScan_of rfl D.small D.el]
  simp only [↓reduceIte]
  unfold setAddByScan
  refine wpAny_bind ?_
  refine wpAny_bind (wpAny_rule ?_)
  refine wpAny_bind (wpAny_setScan_of hkey ho D.data D.fits D.el ?_)
  have hmem := elem_mem D.el x
  cases hr : List.findIdx? (fun e => (PySem.strKind prog w).is x e.2) es.toList with
  | some j =>
    dsimp only
    obtain ⟨hj, hpj, _⟩ := List.findIdx?_eq_some_iff_getElem.mp hr
    have hx : x ∈ ss := D.perm.mem_iff.mp (hmem.mp ⟨es.toList[j], List.getElem_mem hj, hpj⟩)
    refine wpAny_pure (wpAny_pure ?_)
    have := h s.heap false (Heap.SameBut.refl a s.heap) (by rw [stepS, if_pos hx]; exact ⟨o, es, ep, t, ho, D⟩)
    exact this
  | none =>
    dsimp only
    have hx : x ∉ ss := fun hx => by
      obtain ⟨e, he, hp⟩ := hmem.mpr (D.perm.mem_iff.mpr hx)
      have := List.findIdx?_eq_none_iff.mp hr e he
      rw [hp] at this; exact Bool.noConfusion this
    have hgw : ∀ (b : Bool) {s₁ : Shared} {Q' : Unit → Shared → Prop}, Q' () s₁ → wpAny (model prog w) A (match b with | true => rule "set.scan.the-table-gave-way" | false => pure ()) Q' E s₁ :=
      fun b s₁ Q' hq => by cases b <;> first | exact wpAny_pure hq | exact wpAny_rule hq
    have hperm := layNew_perm t es ((PySem.strKind prog w).hash x) (.str x tk)
    have hfits := layNew_fits t es ((PySem.strKind prog w).hash x) (.str x tk)
    have hkp := layNew_keeps t es ((PySem.strKind prog w).hash x) (.str x tk)
    generalize hL : layNew t es ((PySem.strKind prog w).hash x) (.str x tk) = L at hperm hfits hkp ⊢
    obtain ⟨es1, t1, wasDummy, gave⟩ := L
    dsimp only at hperm hfits hkp ⊢
    rw [Array.toList_push] at hperm
    have hb1 : es1.size < scanBound := by rw [← Array.length_toList, hperm.length_eq, List.length_append, Array.length_toList, hlen]; exact hroom
    have hend : ∀ t2 : SetTable, t2.led = t1.led → t2.plain = false → ∀ h' es2 t3 ep', Heap.SameBut a s.heap h' → h'.get? a = some { o with data := .set es2 ep' t3 } → es2.toList.Perm es1.toList → t3.fits es2.size = true → t3.led = t2.led → (t2.plain = false → t3.plain = false) → Q true { s with heap := h' } := by
      intro t2 h1 h2 h' es2 t3 ep' hsb hg hp hf hl hpl
      refine h h' true hsb ⟨_, es2, ep', t3, hg, D.ex, rfl, ?_, ?_, ?_, hf, ?_, .inr (hpl h2)⟩
      · exact ((D.el.push hkey rfl).perm hperm).perm hp
      · have h3 := (hp.trans hperm).map fun e => PyProof.Rows.strOf e.2
        rw [stepS, if_neg hx]
        refine h3.trans ?_
        rw [List.map_append]
        exact D.perm.append_right _
      · rw [← Array.length_toList, hp.length_eq, Array.length_toList]; exact hb1
      · rw [hl, h1, hkp.1, D.led]
    refine wpAny_bind (hgw _ ?_)
    split
    · rename_i hpl
      refine wpAny_bind ?_
      rw [hashByValue_scannable 8 rfl]
      refine wpAny_pure ?_
      refine addTail ?_ ho D.data hb1 ?_ ?_
      · intro b s₁ Q' hq; cases b <;> first | exact wpAny_pure hq | exact wpAny_rule hq
      · exact SetTable.fits_plain_off hfits
      · intro h' es2 t3 ep' hsb hg hp hf hl hpl; dsimp only; exact wpAny_pure (hend { t1 with plain := false } rfl rfl h' es2 t3 ep' hsb hg hp hf hl hpl)
    · rename_i hpl
      refine wpAny_bind (wpAny_pure ?_)
      simp only [↓reduceIte]
      refine addTail ?_ ho D.data hb1 hfits ?_
      · intro b s₁ Q' hq; cases b <;> first | exact wpAny_pure hq | exact wpAny_rule hq
      · intro h' es2 t3 ep' hsb hg hp hf hl hpl'; dsimp only; exact wpAny_pure (hend _ rfl (Bool.eq_false_iff.mpr hpl) h' es2 t3 ep' hsb hg hp hf hl hpl')

theorem StrSet.at {h h' : Heap} {a : Addr} {ss : List Str} {led : Bool} (q : StrSet prog w h a ss led) (hk : ∀ o, h.get? a = some o → h'.get? a = some o) : StrSet prog w h' a ss led :=
  let ⟨o, es, ep, t, h1, h2⟩ := q; ⟨o, es, ep, t, hk o h1, h2⟩

/-- the loop -/
theorem set_loop {I : Addr} {fp wr : List Addr} {G : Array GenState → Array GenState → Prop} {n : Nat} {P : Nat → Value → Prop} {St : Nat → Shared → Prop} {R : Result → Shared → Prop} {led : Bool}
    (W : WalksS prog w A.in1 I fp wr G n P St) (S : Addr) (hSf : S ∉ fp) :
    ∀ (xs : List Str) (ss : List Str) (i : Nat) (s : Shared), i + xs.length = n → (∀ j v, P (i + j) v → ∃ y t, v = .str y t ∧ xs[j]? = some y) → St i s → StrSet prog w s.heap S ss led → ss.length + xs.length + 1 < scanBound →
      (∀ s', Moved (S :: wr) G s s' → StrSet prog w s'.heap S (xs.foldl stepS ss) led → R (.ok (.ret .none)) s') →
      codeAny (model prog w) A (.builtin "set.update.loop" ⟨[.ref S, .ref I], []⟩) R s := by
  have hSw : S ∉ wr := fun h => hSf (W.sub _ h)
  have hsub : ∀ b ∈ wr, b ∈ S :: wr := fun b hb => List.mem_cons_of_mem _ hb
  intro xs
  induction xs with
  | nil =>
    intro ss i s hn hP hst hS hb hR
    have hin : i = n := by simpa using hn
    subst hin
    refine codeAny_builtin F.entry_set_update_loop ?_
    rw [Around.under_plainId F.plain_set_update_loop _]
    show wpAny _ A.in1 (pyNext (.ref I) >>= _) _ _ s
    refine wpAny_bind (W.done s _ _ hst fun s' hm => ?_)
    show wpAny _ A.in1 (ret Value.none) _ _ s'
    exact wpAny_pure (hR s' (hm.mono hsub) (hS.at fun o e => hm.heap S o hSw e))
  | cons x xs ih =>
    intro ss i s hn hP hst hS hb hR
    rw [List.length_cons] at hn hb
    have hlt : i < n := by exact om272 hn
    refine codeAny_builtin F.entry_set_update_loop ?_
    rw [Around.under_plainId F.plain_set_update_loop _]
    show wpAny _ A.in1 (pyNext (.ref I) >>= _) _ _ s
    refine wpAny_bind (W.item i s _ _ hlt hst fun v s' hv hst' hm => ?_)
    obtain ⟨y, t, rfl, hy⟩ := hP 0 v hv
    cases hy
    have hS' := hS.at (h' := s'.heap) fun o e => hm.heap S o hSw e
    show wpAny _ A.in1 (holding [Value.str x t] (setAdd S (.str x t)) >>= _) _ _ s'
    refine wpAny_bind (wpAny_holding ?_)
    unfold setAdd
    refine wpAny_holding ?_
    refine wpAny_bind ((PySem.strKind prog w).pyHash (k := x) (strKind_is prog w x t) ?_)
    refine set_addHashed (s := { s' with toks := s'.toks + 1 }) hS' (by exact om271 hb) fun h' b hsb hS2 => ?_
    have hstep : (stepS ss x).length ≤ ss.length + 1 := by unfold stepS; split <;> simp
    refine wpAny_pure ⟨plainId_quiet F.plain_set_update_loop _, ih (stepS ss x) (i + 1) _ (by exact om270 hn) (fun j v hv => ?_) (W.frame _ s' _ _ hst' (Nat.le_succ _) fun b hb o e => ?_) hS2 (by exact om269 hb hstep) fun s'' hm'' hS'' => ?_⟩
    · have := hP (j + 1) v (by rw [show i + (j + 1) = i + 1 + j by exact om191]; exact hv)
      simpa using this
    · rw [hsb.2 b (fun h : b = S => hSf (by rw [← h]; exact hb))]; exact e
    · refine hR s'' (Moved.trans W.gtrans ((hm.mono hsub).then_heap (Nat.le_succ _) fun b o hb e => ?_) hm'') hS''
      rw [hsb.2 b (fun h : b = S => hb (by rw [h]; exact List.mem_cons_self))]; exact e
end Mine

set_option autoImplicit false
set_option backward.match.sparseCases true
set_option linter.unusedVariables false
set_option maxRecDepth 100000
namespace Mine
open PySem PyProof.Rows

/-! ## iteration over a set of texts -/
theorem slot_setiter_next : Slot "set_iterator" "__next__" "set_iterator.__next__" :=
  .of (owner := "set_iterator") (n := "__next__") (by rw [typeLookup_type, builtinLookup_eq_fast]; kernel_rfl) (by decide +kernel) (by decide +kernel) (by decide +kernel)
    (by first | exact .inl (by decide +kernel) | exact .inr (by decide +kernel)) (by rw [isSubtype_type]; kernel_rfl)
theorem entry_setiter_next : entryFor table "set_iterator.__next__" = some Builtin.«set_iterator.__next__» := entryFor_of_tree (by kernel_rfl)
theorem args_setiter_next (a : Value) : argsOk "set_iterator.__next__" ⟨[a], []⟩ := by unfold argsOk; kernel_rfl
theorem entry_set_iter : entryFor table "set.__iter__" = some Builtin.«frozenset.__iter__» :=
  entryFor_alias (id' := "frozenset.__iter__") (by kernel_rfl) rfl (by decide +kernel) (by kernel_rfl)

section
variable {prog : Program} {w : World} {A : Around} {E : Value → Shared → Prop} {s : Shared}

theorem wpAny_choose {M : Model} {src : Source} {n : Nat} {Q : Nat → Shared → Prop} (hn : n ≠ 0) (h : ∀ i, i < n → ∀ d, Q i { s with drawn := d }) : wpAny M A (choose src n) Q E s := fun Γ p _ => by
  unfold choose
  rw [Sem.wp_choose]
  exact ⟨hn, by rw [Sem.wp_pure]; exact h _ (Nat.mod_lt _ (Nat.pos_of_ne_zero hn)) _⟩
theorem erase_perm {α : Type} : ∀ (l : List α) (i : Nat) (hi : i < l.length), (l[i] :: l.eraseIdx i).Perm l
  | x :: l, 0, _ => .refl _
  | x :: l, i + 1, hi => ((List.Perm.swap x _ _)).trans ((erase_perm l i (Nat.lt_of_succ_lt_succ hi)).cons x)
theorem wp_drawOrder {α : Type} : ∀ (n : Nat) (xs : List α) {s : Shared} {Q : List α → Shared → Prop}, n = xs.length → (∀ ys d, ys.Perm xs → Q ys { s with drawn := d }) → wpAny (model prog w) A (drawOrder n xs) Q E s := by
  intro n
  induction n with
  | zero =>
    intro xs s Q hn h
    cases xs with
    | nil => exact wpAny_pure (h [] s.drawn (.refl _))
    | cons => cases hn
  | succ n ih =>
    intro xs s Q hn h
    cases xs with
    | nil => cases hn
    | cons x xs =>
      show wpAny _ _ (choose .order (x :: xs).length >>= _) _ _ s
      refine wpAny_bind (wpAny_choose (by simp) fun i hi d => ?_)
      have hg : (x :: xs)[i]? = some ((x :: xs)[i]) := List.getElem?_eq_getElem hi
      simp only [hg]
      refine wpAny_bind (ih _ (by rw [List.length_eraseIdx_of_lt hi]; exact om273 hn) fun ys d' hp => ?_)
      exact wpAny_pure (h _ d' ((hp.cons _).trans (erase_perm _ i hi)))

noncomputable def byT (w : World) : Bool := w.params.followText "set-order"
theorem wp_byText {Q : Bool → Shared → Prop} (h : Q (byT w) s) : wpAny (model prog w) A setsByText Q E s := wpAny_bind (wpAny_askSetting (wpAny_pure h))

variable {a : Addr} {o : Obj} {es : Array (Int × Value)} {ep : Nat} {t : SetTable} {ss : List Str} {led : Bool}
theorem wp_setEntries {Q : Array (Int × Value) → Shared → Prop} (ho : s.heap.get? a = some o) (D : SetData prog w o es ep t ss led) (h : Q es s) : wpAny (model prog w) A (setEntries a) Q E s :=
  wpAny_bind (wpAny_setState_of ho D.data D.fits (wpAny_pure h))
theorem wp_setEpoch {Q : Nat → Shared → Prop} (ho : s.heap.get? a = some o) (D : SetData prog w o es ep t ss led) (h : Q ep s) : wpAny (model prog w) A (setEpoch a) Q E s :=
  wpAny_setEpoch_of ho D.data D.fits h
theorem SetData.drawn (D : SetData prog w o es ep t ss led) : (!t.plain && decide (es.size > 1)) = decide (es.size > 1) := by
  rcases D.plain with h | h
  · rw [h]; simp
  · rw [h]; rfl
theorem wp_setDrawn {Q : Bool → Shared → Prop} (ho : s.heap.get? a = some o) (D : SetData prog w o es ep t ss led) (h : Q (!byT w && decide (es.size > 1)) s) : wpAny (model prog w) A (setDrawn a) Q E s := by
  unfold setDrawn
  refine wpAny_bind (wpAny_setState_of ho D.data D.fits ?_)
  dsimp only
  refine wpAny_bind (wp_byText ?_)
  refine wpAny_pure ?_
  have := D.drawn
  show Q (!byT w && (!t.plain && decide (es.size > 1))) s
  rw [this]; exact h

/-- the iterator -/
noncomputable def SetIt (h : Heap) (I d : Addr) (first : Value) (i n ep : Nat) : Prop := ∃ o, h.get? I = some o ∧ o.cls = .type "set_iterator" ∧ o.data = .fields #[first, .int i 0, .ref d, .int n 0, .int ep 0]
theorem SetIt.typeIs {I d : Addr} {first : Value} {i n ep : Nat} (x : SetIt s.heap I d first i n ep) : s.TypeIs (.ref I) "set_iterator" := let ⟨o, ho, hc, _⟩ := x; ⟨o, ho, hc⟩
theorem SetIt.at {h h' : Heap} {I d : Addr} {first : Value} {i n ep : Nat} (x : SetIt h I d first i n ep) (e : ∀ o, h.get? I = some o → h'.get? I = some o) : SetIt h' I d first i n ep := let ⟨o, ho, r⟩ := x; ⟨o, e _ ho, r⟩

/-- the stop -/
theorem stop_iter {α : Type} (hh : A.handled = none) {P : α → Shared → Prop}
    (h : ∀ e, ∀ h', (∀ b o, s.heap.get? b = some o → h'.get? b = some o) → Shared.TypeIs { s with heap := h' } e "StopIteration" → E e { s with heap := h' }) :
    wpAny (model prog w) A (newExc (.type "StopIteration") [] >>= fun x => (raiseNew x : Sem α)) P E s := by
  refine wpAny_bind ?_
  simp only [newExc, newTuple]
  refine wpAny_bind (wpAny_newObj_type ?_ (by size_fits))
  refine wpAny_bind (m := firstArgMember _ _) (wpAny_of_eq (a := Value.none) (by first | rfl | (simp only [firstArgMember]; rfl)) ?_)
  refine wpAny_newObj_type ?_ (by size_fits)
  simp only [raiseNew]
  refine wpAny_bind (wpAny_handled ?_)
  rw [hh]
  refine wpAny_bind (wpAny_pure (wpAny_throw (h (.ref _) _ (fun b o e => Heap.get?_push_of_some _ (Heap.get?_push_of_some _ e)) ⟨_, Heap.get?_push_size _ rfl, rfl⟩)))

variable {I : Addr} {first : Value} {i : Nat} {Q : Option Value → Shared → Prop}
/-- next, drawn order -/
theorem next_drawn {T : Addr} {pl : List Nat} {x : Int × Value} {j : Nat} (hit : SetIt s.heap I a (.ref T) i es.size ep) (ho : s.heap.get? a = some o) (D : SetData prog w o es ep t ss led)
    (hT : s.heap.get? T = some { cls := .type "tuple", data := .seq (pl.map fun n : Nat => rawInt n).toArray }) (hj : pl[i]? = some j) (hx : es[j]? = some x)
    (hQ : ∀ h', SetIt h' I a (.ref T) (i + 1) es.size ep → Heap.SameBut I s.heap h' → Q (some x.2) { s with heap := h' }) :
    wpAny (model prog w) A (pyNext (.ref I)) Q E s := by
  obtain ⟨oI, hoI, hc, hd⟩ := id hit
  unfold pyNext
  refine wpAny_bind (wpAny_attempt (wpAny_callSpecial?_slot (name := Str.ofString "__next__") hit.typeIs slot_setiter_next
    (wpAny_call_entry slot_setiter_next hit.typeIs entry_setiter_next ?_ (args_setiter_next _))))
  refine wpAny_bind (wpAny_pure ?_)
  refine wpAny_bind (wpAny_fieldsOf hoI hd ?_)
  dsimp only
  refine wpAny_bind (wp_setEntries ho D ?_)
  rw [if_neg (by simp)]
  refine wpAny_bind (wpAny_seqItems hT rfl ?_)
  simp only [Int.toNat_natCast, List.getElem?_toArray, List.getElem?_map, hj, Option.map_some, rawInt]
  refine wpAny_bind ?_
  unfold setNextDrawn
  refine wpAny_bind (wpAny_setState_of ho D.data D.fits ?_)
  dsimp only
  rw [if_neg (by simp)]
  simp only [hx]
  refine wpAny_pure ?_
  show wpAny _ _ (setField (.ref I) 1 (rawInt ((i : Int) + 1)) >>= _) _ _ s
  refine wpAny_bind (wpAny_setField hoI hd (by simp) ?_)
  have hit' : SetIt (s.heap.update I (Obj.mapFields (·.setIfInBounds 1 (rawInt ((i : Int) + 1))))) I a (.ref T) (i + 1) es.size ep :=
    ⟨_, Heap.get?_update_self _ hoI (Obj.isFreed_of_fields (Obj.data_mapFields hd _)), (Obj.cls_mapFields ..).trans hc, by rw [Obj.data_mapFields hd]; simp [rawInt]⟩
  exact wpAny_pure ⟨_, rfl, wpAny_pure (hQ _ hit' (Heap.SameBut.update ..))⟩
theorem end_drawn {T : Addr} {pl : List Nat} (hh : A.handled = none) (hit : SetIt s.heap I a (.ref T) i es.size ep) (ho : s.heap.get? a = some o) (D : SetData prog w o es ep t ss led)
    (hT : s.heap.get? T = some { cls := .type "tuple", data := .seq (pl.map fun n : Nat => rawInt n).toArray }) (hj : pl[i]? = none)
    (hQ : ∀ h', Heap.ExtBut I s.heap h' → Q none { s with heap := h' }) :
    wpAny (model prog w) A (pyNext (.ref I)) Q E s := by
  obtain ⟨oI, hoI, hc, hd⟩ := id hit
  unfold pyNext
  refine wpAny_bind (wpAny_attempt (wpAny_callSpecial?_slot (name := Str.ofString "__next__") hit.typeIs slot_setiter_next
    (wpAny_call_entry slot_setiter_next hit.typeIs entry_setiter_next ?_ (args_setiter_next _))))
  refine wpAny_bind (wpAny_pure ?_)
  refine wpAny_bind (wpAny_fieldsOf hoI hd ?_)
  dsimp only
  refine wpAny_bind (wp_setEntries ho D ?_)
  rw [if_neg (by simp)]
  refine wpAny_bind (wpAny_seqItems hT rfl ?_)
  simp only [Int.toNat_natCast, List.getElem?_toArray, List.getElem?_map, hj, Option.map_none]
  refine wpAny_bind (wpAny_setField hoI hd (by simp) ?_)
  have ho2 := Heap.get?_update_self (Obj.mapFields (·.setIfInBounds 0 (rawInt 0))) hoI (Obj.isFreed_of_fields (Obj.data_mapFields hd _))
  refine wpAny_bind (wpAny_setField ho2 (Obj.data_mapFields hd _) (by simp) ?_)
  refine stop_iter (A := A.in1) hh fun e h' hk hT => ?_
  refine wpAny_bind (wpAny_isInstance (T := "StopIteration") (b := true) hT isSubtype_stop ?_)
  refine wpAny_pure (hQ _ fun b o hb e => hk _ _ ?_)
  exact (Heap.get?_update_other _ _ (Ne.symm hb)).trans ((Heap.get?_update_other _ _ (Ne.symm hb)).trans e)
/-- next, order of the text, or one alone -/
theorem next_int {k k' : Nat} {v : Value} (hit : SetIt s.heap I a (.int k 0) i es.size ep) (ho : s.heap.get? a = some o) (D : SetData prog w o es ep t ss led)
    (hn : ∀ {A' : Around} {E' : Value → Shared → Prop} {Q' : Option (Value × Nat) → Shared → Prop}, Q' (some (v, k')) s → wpAny (model prog w) A' (setNext a k i ep) Q' E' s)
    (hQ : ∀ h', SetIt h' I a (.int k' 0) (i + 1) es.size ep → Heap.SameBut I s.heap h' → Q (some v) { s with heap := h' }) :
    wpAny (model prog w) A (pyNext (.ref I)) Q E s := by
  obtain ⟨oI, hoI, hc, hd⟩ := id hit
  unfold pyNext
  refine wpAny_bind (wpAny_attempt (wpAny_callSpecial?_slot (name := Str.ofString "__next__") hit.typeIs slot_setiter_next
    (wpAny_call_entry slot_setiter_next hit.typeIs entry_setiter_next ?_ (args_setiter_next _))))
  refine wpAny_bind (wpAny_pure ?_)
  refine wpAny_bind (wpAny_fieldsOf hoI hd ?_)
  dsimp only
  refine wpAny_bind (wp_setEntries ho D ?_)
  rw [if_neg (by simp)]
  simp only [Int.toNat_natCast]
  refine wpAny_bind (hn ?_)
  dsimp only
  refine wpAny_bind (wpAny_setField hoI hd (by simp) ?_)
  have ho2 := Heap.get?_update_self (Obj.mapFields (·.setIfInBounds 0 (rawInt k'))) hoI (Obj.isFreed_of_fields (Obj.data_mapFields hd _))
  refine wpAny_bind (wpAny_setField ho2 (Obj.data_mapFields hd _) (by simp) ?_)
  refine wpAny_pure ⟨_, rfl, wpAny_pure (hQ _ ⟨_, Heap.get?_update_self _ ho2 (Obj.isFreed_of_fields (Obj.data_mapFields (Obj.data_mapFields hd _) _)), ((Obj.cls_mapFields ..).trans (Obj.cls_mapFields ..)).trans hc, ?_⟩ ((Heap.SameBut.update ..).trans (Heap.SameBut.update ..)))⟩
  rw [Obj.data_mapFields (Obj.data_mapFields hd _)]; simp [rawInt]
theorem end_int {k : Nat} (hh : A.handled = none) (hit : SetIt s.heap I a (.int k 0) i es.size ep) (ho : s.heap.get? a = some o) (D : SetData prog w o es ep t ss led)
    (hn : ∀ {A' : Around} {E' : Value → Shared → Prop} {Q' : Option (Value × Nat) → Shared → Prop}, Q' none s → wpAny (model prog w) A' (setNext a k i ep) Q' E' s)
    (hQ : ∀ h', Heap.ExtBut I s.heap h' → Q none { s with heap := h' }) :
    wpAny (model prog w) A (pyNext (.ref I)) Q E s := by
  obtain ⟨oI, hoI, hc, hd⟩ := id hit
  unfold pyNext
  refine wpAny_bind (wpAny_attempt (wpAny_callSpecial?_slot (name := Str.ofString "__next__") hit.typeIs slot_setiter_next
    (wpAny_call_entry slot_setiter_next hit.typeIs entry_setiter_next ?_ (args_setiter_next _))))
  refine wpAny_bind (wpAny_pure ?_)
  refine wpAny_bind (wpAny_fieldsOf hoI hd ?_)
  dsimp only
  refine wpAny_bind (wp_setEntries ho D ?_)
  rw [if_neg (by simp)]
  simp only [Int.toNat_natCast]
  refine wpAny_bind (hn ?_)
  dsimp only
  refine wpAny_bind (wpAny_setField hoI hd (by simp) ?_)
  refine stop_iter (A := A.in1) hh fun e h' hk hT => ?_
  refine wpAny_bind (wpAny_isInstance (T := "StopIteration") (b := true) hT isSubtype_stop ?_)
  refine wpAny_pure (hQ _ fun b o hb e => hk _ _ ?_)
  exact (Heap.get?_update_other _ _ (Ne.symm hb)).trans e
end
end Mine

set_option autoImplicit false
set_option backward.match.sparseCases true
set_option linter.unusedVariables false
set_option maxRecDepth 100000
namespace Mine
open PySem PyProof.Rows PySem.Calls PySem.W
section
variable {prog : Program} {w : World} {A : Around} {E : Value → Shared → Prop} {s : Shared}
variable {a : Addr} {o : Obj} {es : Array (Int × Value)} {ep : Nat} {t : SetTable} {ss : List Str} {led : Bool}

theorem pick_go {α : Type} (next : Nat → Nat) : ∀ (n k : Nat) (l : List α) (out : Array α), n = l.length → (pickOrder.go next n k l out).toList.Perm (out.toList ++ l) := by
  intro n
  induction n with
  | zero =>
    intro k l out hn
    cases l with
    | nil => simp [pickOrder.go]
    | cons => cases hn
  | succ n ih =>
    intro k l out hn
    have hl : 0 < l.length := by exact om274 hn
    have hi : next k % l.length < l.length := Nat.mod_lt _ hl
    unfold pickOrder.go
    rw [List.getElem?_eq_getElem hi]
    dsimp only
    refine (ih (k + 1) _ _ (by rw [List.length_eraseIdx_of_lt hi]; exact om273 hn)).trans ?_
    rw [Array.toList_push, List.append_assoc]
    exact ((erase_perm l _ hi)).append_left _
theorem pick_perm {α : Type} (next : Nat → Nat) (xs : Array α) : (pickOrder next xs).toList.Perm xs.toList := by
  have := pick_go next xs.size 0 xs.toList #[] (by simp)
  simpa [pickOrder] using this

/-- the order of the text -/
theorem setNext_text (hb : byT w = true) (ho : s.heap.get? a = some o) (D : SetData prog w o es ep t ss led) {k i : Nat} {Q : Option (Value × Nat) → Shared → Prop}
    (h : Q (((pickOrder (w.params.setOrder a ep) es)[i]?).map fun e => (e.2, k)) s) : wpAny (model prog w) A (setNext a k i ep) Q E s := by
  unfold setNext
  refine wpAny_bind (wpAny_setState_of ho D.data D.fits ?_)
  dsimp only
  refine wpAny_bind (wp_byText ?_)
  rw [if_pos hb, if_neg (by simp)]
  refine wpAny_bind ?_
  unfold setWalk
  refine wpAny_bind (wpAny_setState_of ho D.data D.fits ?_)
  dsimp only
  refine wpAny_bind (wp_byText ?_)
  rw [if_pos hb]
  exact wpAny_bind (wpAny_askSetting (wpAny_pure (wpAny_pure h)))
theorem below_one (j k : Nat) : SetTable.below #[j] k = if j < k then 1 else 0 := by
  show SetTable.below.go #[j] k 1 0 1 = _
  rw [SetTable.below.go]
  simp only [Nat.lt_add_one, ↓reduceIte]
  show (if (#[j].getD ((0 + 1) / 2) k) < k then _ else _) = _
  show (if j < k then _ else _) = _
  split <;> rfl
theorem setNext_small (hb : byT w = false) (hl : t.led = true) (hs : es.size ≤ 1) (ho : s.heap.get? a = some o) (D : SetData prog w o es ep t ss led) {k i : Nat} {Q : Option (Value × Nat) → Shared → Prop}
    (h : Q (match es[SetTable.below t.place k]?, t.place[SetTable.below t.place k]? with | some (_, x), some j => some (x, j + 1) | _, _ => none) s) : wpAny (model prog w) A (setNext a k i ep) Q E s := by
  unfold setNext
  refine wpAny_bind (wpAny_setState_of ho D.data D.fits ?_)
  dsimp only
  refine wpAny_bind (wp_byText ?_)
  rw [if_neg (by rw [hb]; exact Bool.false_ne_true)]
  have hd : ¬ ((!t.plain && decide (es.size > 1)) = true) := by rw [D.drawn]; simp; assumption
  refine wpAny_ite_split (fun q => absurd q hd) fun _ => ?_
  refine wpAny_bind ?_
  have hl' : ¬ ((!t.led && !es.isEmpty) = true) := by rw [hl]; simp
  refine wpAny_ite_split (fun q => absurd q hl') fun _ => ?_
  exact wpAny_pure (wpAny_pure h)
end
end Mine

set_option autoImplicit false
set_option backward.match.sparseCases true
set_option linter.unusedVariables false
set_option maxRecDepth 100000
namespace Mine
open PySem PyProof.Rows PySem.Calls PySem.W

theorem slot_setiter_iter : Slot "set_iterator" "__iter__" "set_iterator.__iter__" :=
  .of (owner := "set_iterator") (n := "__iter__") (by rw [typeLookup_type, builtinLookup_eq_fast]; kernel_rfl) (by decide +kernel) (by decide +kernel) (by decide +kernel)
    (by first | exact .inl (by decide +kernel) | exact .inr (by decide +kernel)) (by rw [isSubtype_type]; kernel_rfl)
theorem entry_setiter_iter : entryFor table "set_iterator.__iter__" = some Builtin.«dict_keyiterator.__iter__» :=
  entryFor_alias (id' := "dict_keyiterator.__iter__") (by kernel_rfl) rfl (by decide +kernel) (by kernel_rfl)
theorem args_setiter_iter (a : Value) : argsOk "set_iterator.__iter__" ⟨[a], []⟩ := by unfold argsOk; kernel_rfl
section
variable {prog : Program} {w : World} {A : Around} {E : Value → Shared → Prop} {s : Shared}
variable {a : Addr} {o : Obj} {es : Array (Int × Value)} {ep : Nat} {t : SetTable} {ss : List Str} {led : Bool}
theorem iter_setiter {I d : Addr} {first : Value} {i n : Nat} {Q : Value → Shared → Prop} (hit : SetIt s.heap I d first i n ep) (h : Q (.ref I) s) : wpAny (model prog w) A (pyIter (.ref I)) Q E s := by
  refine wpAny_pyIter_slot hit.typeIs slot_setiter_iter (wpAny_call_entry slot_setiter_iter hit.typeIs entry_setiter_iter ?_ (args_setiter_iter _))
  show wpAny _ _ (ret (.ref I)) _ _ s
  exact wpAny_pure ⟨_, rfl, "set_iterator", _, hit.typeIs, slot_setiter_next.lookup, h⟩

theorem range_items {α β : Type} (f : α → β) : ∀ l : List α, (List.range l.length).filterMap (fun j => l[j]?.map f) = l.map f
  | [] => rfl
  | x :: l => by
    rw [List.length_cons, List.range_succ_eq_map, List.filterMap_cons, List.filterMap_map]
    exact congrArg (f x :: ·) (range_items f l)
noncomputable def placesObj (pl : List Nat) : Obj := { cls := .type "tuple", data := .seq (pl.map fun n : Nat => rawInt n).toArray }
theorem walks_drawn (hh : A.handled = none) {I T : Addr} (hI : a ≠ I) (hTI : T ≠ I) (D : SetData prog w o es ep t ss led) {pl : List Nat} (hp : pl.Perm (List.range es.size)) :
    Walks prog w A I [I, a, T] [I] es.size (fun i v => (pl.filterMap fun j => es[j]?.map (·.2))[i]? = some v) (fun i h => SetIt h I a (.ref T) i es.size ep ∧ h.get? a = some o ∧ h.get? T = some (placesObj pl)) := by
  have hlen : pl.length = es.size := by rw [hp.length_eq, List.length_range]
  have hat : ∀ i, i < es.size → ∃ j x, pl[i]? = some j ∧ es[j]? = some x := fun i hi => by
    have h1 : i < pl.length := by exact om265 hlen hi
    have h2 : pl[i] < es.size := List.mem_range.mp (hp.mem_iff.mp (List.getElem_mem h1))
    exact ⟨pl[i], es[pl[i]], List.getElem?_eq_getElem h1, Array.getElem?_eq_getElem h2⟩
  have hfm : ∀ (l : List Nat), (∀ j ∈ l, j < es.size) → ∀ (i j : Nat) (x : Int × Value), l[i]? = some j → es[j]? = some x → (l.filterMap fun j => es[j]?.map (·.2))[i]? = some x.2 := by
    intro l
    induction l with
    | nil => intro _ i j x h; simp at h
    | cons b l ih =>
      intro hl i j x h1 h2
      have hb : b < es.size := hl b (List.mem_cons_self)
      rw [List.filterMap_cons, Array.getElem?_eq_getElem hb]
      cases i with
      | zero => cases h1; rw [Array.getElem?_eq_getElem hb] at h2; cases h2; rfl
      | succ i => exact ih (fun j hj => hl j (List.mem_cons_of_mem _ hj)) i j x h1 h2
  have hall : ∀ j ∈ pl, j < es.size := fun j hj => List.mem_range.mp (hp.mem_iff.mp hj)
  refine ⟨fun b hb => by simp at hb; simp [hb], fun i h h' st hk => ⟨st.1.at fun o e => hk I (by simp) o e, hk a (by simp) o st.2.1, hk T (by simp) _ st.2.2⟩, fun i s Q E hi st hQ => ?_, fun s Q E st hQ => ?_, fun i s Q E st hQ => iter_setiter st.1 hQ⟩
  · obtain ⟨j, x, h1, h2⟩ := hat i hi
    refine next_drawn st.1 st.2.1 D st.2.2 h1 h2 fun h' hit' hs => ?_
    refine hQ x.2 h' s.toks (hfm pl hall i j x h1 h2) ⟨hit', ?_, ?_⟩ fun b o hb e => ?_
    · rw [hs.2 a hI]; exact st.2.1
    · rw [hs.2 T hTI]; exact st.2.2
    · rw [hs.2 b (fun h => hb (by simp [h]))]; exact e
  · refine end_drawn hh st.1 st.2.1 D st.2.2 (by simp [hlen]) fun h' he => ?_
    exact hQ h' s.toks fun b o hb e => he b o (fun h => hb (by simp [h])) e
theorem walks_text (hh : A.handled = none) {I : Addr} (hI : a ≠ I) (D : SetData prog w o es ep t ss led) (hb : byT w = true) :
    Walks prog w A I [I, a] [I] es.size (fun i v => ((pickOrder (w.params.setOrder a ep) es).toList.map (·.2))[i]? = some v) (fun i h => (∃ k : Nat, SetIt h I a (.int k 0) i es.size ep) ∧ h.get? a = some o) := by
  have hlen : (pickOrder (w.params.setOrder a ep) es).size = es.size := by rw [← Array.length_toList, (pick_perm _ es).length_eq, Array.length_toList]
  refine ⟨fun b hb => by simp at hb; simp [hb], fun i h h' st hk => ⟨let ⟨k, q⟩ := st.1; ⟨k, q.at fun o e => hk I (by simp) o e⟩, hk a (by simp) o st.2⟩, fun i s Q E hi st hQ => ?_, fun s Q E st hQ => ?_, fun i s Q E st hQ => let ⟨k, q⟩ := st.1; iter_setiter q hQ⟩
  · obtain ⟨⟨k, hit⟩, ho⟩ := st
    have h1 : (pickOrder (w.params.setOrder a ep) es)[i]? = some (pickOrder (w.params.setOrder a ep) es)[i] := Array.getElem?_eq_getElem (by exact om265 hlen hi)
    refine next_int (k' := k) (v := (pickOrder (w.params.setOrder a ep) es)[i].2) hit ho D (fun hq => setNext_text hb ho D ?_) fun h' hit' hs => ?_
    · rw [h1]; exact hq
    · refine hQ _ h' s.toks ?_ ⟨⟨k, hit'⟩, ?_⟩ fun b o hb e => ?_
      · rw [List.getElem?_map, Array.getElem?_toList, h1]; rfl
      · rw [hs.2 a hI]; exact ho
      · rw [hs.2 b (fun h => hb (by simp [h]))]; exact e
  · obtain ⟨⟨k, hit⟩, ho⟩ := st
    refine end_int hh hit ho D (fun hq => setNext_text hb ho D ?_) fun h' he => ?_
    · rw [Array.getElem?_eq_none (by exact om267 hlen)]; exact hq
    · exact hQ h' s.toks fun b o hb e => he b o (fun h => hb (by simp [h])) e
theorem walks_small (hh : A.handled = none) {I : Addr} (hI : a ≠ I) (D : SetData prog w o es ep t ss led) (hb : byT w = false) (hl : t.led = true) (hs : es.size ≤ 1) :
    Walks prog w A I [I, a] [I] es.size (fun i v => (es.toList.map (·.2))[i]? = some v) (fun i h => SetIt h I a (.int ((if i = 0 then 0 else t.place.getD 0 0 + 1 : Nat) : Int) 0) i es.size ep ∧ h.get? a = some o) := by
  have hps : t.place.size = es.size := by have := D.fits; simp only [SetTable.fits, Bool.and_eq_true, beq_iff_eq] at this; exact this.1
  refine ⟨fun b hb => by simp at hb; simp [hb], fun i h h' st hk => ⟨st.1.at fun o e => hk I (by simp) o e, hk a (by simp) o st.2⟩, fun i s Q E hi st hQ => ?_, fun s Q E st hQ => ?_, fun i s Q E st hQ => iter_setiter st.1 hQ⟩
  · obtain ⟨hit, ho⟩ := st
    have h0 : i = 0 := by exact om279 hs hi
    subst h0
    obtain ⟨j, hj⟩ : ∃ j, t.place = #[j] := Array.size_eq_one_iff.mp (by exact om277 hs hps hi)
    have he : es[0]? = some es[0] := Array.getElem?_eq_getElem (by assumption)
    refine next_int (k' := j + 1) (v := es[0].2) hit ho D (fun hq => setNext_small hb hl hs ho D ?_) fun h' hit' hs => ?_
    · rw [hj, if_pos rfl, below_one, if_neg (Nat.not_lt_zero _), he]; exact hq
    · refine hQ _ h' s.toks ?_ ⟨?_, ?_⟩ fun b o hb e => ?_
      · rw [List.getElem?_map, Array.getElem?_toList, he]; rfl
      · rw [if_neg (by exact om278), hj]; exact hit'
      · rw [hs.2 a hI]; exact ho
      · rw [hs.2 b (fun h => hb (by simp [h]))]; exact e
  · obtain ⟨hit, ho⟩ := st
    refine end_int hh hit ho D (fun hq => setNext_small hb hl hs ho D ?_) fun h' he => ?_
    · rcases Nat.lt_or_ge 0 es.size with h1 | h1
      · obtain ⟨j, hj⟩ : ∃ j, t.place = #[j] := Array.size_eq_one_iff.mp (by exact om277 hs hps h1)
        rw [if_neg (by exact om276 h1), hj]
        have hgd : (#[j] : Array Nat).getD 0 0 = j := rfl
        rw [hgd, below_one, if_pos (Nat.lt_succ_self j), Array.getElem?_eq_none (by assumption)]; exact hq
      · rw [Array.getElem?_eq_none (xs := es) (by exact om275 h1)]; exact hq
    · exact hQ h' s.toks fun b o hb e => he b o (fun h => hb (by simp [h])) e

/-- an iterator made -/
theorem iter_set (hh : A.handled = none) (ho : s.heap.get? a = some o) (D : SetData prog w o es ep t ss (!byT w)) {Q : Value → Shared → Prop}
    (h : ∀ (I : Addr) (h1 : Heap) d1 (fp : List Addr) (vs : List Value) (St : Nat → Heap → Prop), (∀ b o, s.heap.get? b = some o → h1.get? b = some o) → (∀ b ∈ fp, b = a ∨ s.heap.objs.size ≤ b) → s.heap.objs.size ≤ I → Walks prog w A I fp [I] es.size (fun i v => vs[i]? = some v) St → St 0 h1 → vs.Perm (es.toList.map (·.2)) → Q (.ref I) { s with heap := h1, drawn := d1 }) :
    wpAny (model prog w) A (pyIter (.ref a)) Q E s := by
  have hT : s.TypeIs (.ref a) "set" := ⟨o, ho, D.ex.1⟩
  have hlt := Heap.lt_size ho
  refine wpAny_pyIter_slot hT F.slot_set_iter (wpAny_call_entry F.slot_set_iter hT entry_set_iter ?_ (F.args_set_iter_1 _))
  unfold Builtin.«frozenset.__iter__»
  refine wpAny_bind (m := Builtin.Frozenset.slot0 _ _) (wpAny_bind (wpAny_pure (wpAny_pure ?_)))
  refine wpAny_bind (m := Builtin.Frozenset.sizeOf _) (wpAny_bind (wp_setEntries ho D (wpAny_pure ?_)))
  refine wpAny_bind (wp_setDrawn ho D ?_)
  by_cases hdr : (!byT w && decide (es.size > 1)) = true
  · rw [if_pos hdr]
    refine wpAny_bind (wp_drawOrder es.size (List.range es.size) (by simp) fun pl d1 hp => ?_)
    refine wpAny_bind (wpAny_newTuple (items := pl.map fun n : Nat => rawInt n) ?_ (by rw [List.length_map, hp.length_eq, List.length_range]; exact fits_of_scanBound D.small))
    have ho1 : (s.heap.push (placesObj pl)).get? a = some o := Heap.get?_push_of_some _ ho
    refine wpAny_bind (wp_setEpoch (s := { s with heap := s.heap.push (placesObj pl), drawn := d1 }) ho1 D ?_)
    refine wpAny_bind (wpAny_newObj_type ?_)
    refine wpAny_pure ⟨_, rfl, "set_iterator", _, ⟨_, Heap.get?_push_size _ rfl, rfl⟩, slot_setiter_next.lookup, ?_⟩
    have hsz : (s.heap.push (placesObj pl)).objs.size = s.heap.objs.size + 1 := Heap.size_push ..
    refine h _ _ d1 [_, a, s.heap.objs.size] _ _ (fun b o e => Heap.get?_push_of_some _ (Heap.get?_push_of_some _ e)) ?_ ?_ (walks_drawn hh ?_ ?_ D hp) ⟨⟨_, Heap.get?_push_size _ rfl, rfl, rfl⟩, Heap.get?_push_of_some _ ho1, Heap.get?_push_of_some _ (Heap.get?_push_size _ rfl)⟩ ?_
    · intro b hb
      simp only [List.mem_cons, List.not_mem_nil, or_false] at hb
      rcases hb with rfl | rfl | rfl
      · exact .inr (by rw [hsz]; exact om122)
      · exact .inl rfl
      · exact .inr (Nat.le_refl _)
    · rw [hsz]; exact Nat.le_succ _
    · rw [hsz]; exact Nat.ne_of_lt (Nat.lt_succ_of_lt hlt)
    · rw [hsz]; exact Nat.ne_of_lt (Nat.lt_succ_self _)
    · have h1 := hp.filterMap fun j => es[j]?.map (·.2)
      refine h1.trans ?_
      have h2 : (List.range es.size).filterMap (fun j => es[j]?.map (·.2)) = es.toList.map (·.2) := by
        have := range_items (fun x : Int × Value => x.2) es.toList
        simpa using this
      rw [h2]
  · rw [if_neg hdr]
    refine wpAny_bind (wpAny_pure ?_)
    refine wpAny_bind (wp_setEpoch ho D ?_)
    refine wpAny_bind (wpAny_newObj_type ?_)
    refine wpAny_pure ⟨_, rfl, "set_iterator", _, ⟨_, Heap.get?_push_size _ rfl, rfl⟩, slot_setiter_next.lookup, ?_⟩
    have hfp : ∀ b ∈ [s.heap.objs.size, a], b = a ∨ s.heap.objs.size ≤ b := fun b hb => by
      simp only [List.mem_cons, List.not_mem_nil, or_false] at hb
      rcases hb with rfl | rfl
      · exact .inr (Nat.le_refl _)
      · exact .inl rfl
    cases hb : byT w with
    | true =>
      exact h _ _ s.drawn [s.heap.objs.size, a] _ _ (fun b o e => Heap.get?_push_of_some _ e) hfp (Nat.le_refl _) (walks_text hh (Nat.ne_of_lt hlt) D hb) ⟨⟨0, _, Heap.get?_push_size _ rfl, rfl, rfl⟩, Heap.get?_push_of_some _ ho⟩ ((pick_perm _ es).map _)
    | false =>
      have hs : es.size ≤ 1 := by rw [hb] at hdr; simp at hdr; assumption
      exact h _ _ s.drawn [s.heap.objs.size, a] _ _ (fun b o e => Heap.get?_push_of_some _ e) hfp (Nat.le_refl _) (walks_small hh (Nat.ne_of_lt hlt) D hb (by rw [D.led, hb]; rfl) hs) ⟨⟨_, Heap.get?_push_size _ rfl, rfl, rfl⟩, Heap.get?_push_of_some _ ho⟩ (.refl _)
end
end Mine

set_option autoImplicit false
set_option backward.match.sparseCases true
set_option linter.unusedVariables false
set_option maxRecDepth 100000
namespace Mine
open PySem PyProof.Rows PySem.Calls PySem.W PySem.Spec
section
variable {prog : Program} {w : World} {A : Around} {E : Value → Shared → Prop} {s : Shared}
variable {a : Addr} {o : Obj} {es : Array (Int × Value)} {ep : Nat} {t : SetTable} {ss : List Str} {led : Bool}
theorem hint_set {r : Addr} {Q : Bool → Shared → Prop} (hT : s.TypeIs (.ref r) "set") (h : Q false s) : wpAny (model prog w) A (Builtin.List.listLengthHint (.ref r)) Q E s := by
  unfold Builtin.List.listLengthHint
  refine wpAny_bind (wpAny_specialOf hT PySem.F.slot_set_len.lookup ?_)
  generalize hid : ("set.__len__" : String) = id0
  wp_delta
  rw [show splitId id0 = some ("set", "__len__") from by subst hid; decide +kernel]
  subst hid
  refine wpAny_bind (wpAny_isInstance (T := "set") (b := true) hT (by rw [isSubtype_type]; kernel_rfl) ?_)
  refine wpAny_ite_split (fun hab => absurd hab (by decide)) (fun _ => ?_)
  refine wpAny_ite_split (fun _ => ?_) (fun hab => absurd (by decide +kernel) hab)
  refine wpAny_bind (wpAny_typeOf hT ?_)
  exact wpAny_pure h

theorem extend_set {R : Result → Shared → Prop} (hh : A.handled = none) (ho : s.heap.get? a = some o) (D : SetData prog w o es ep t ss (!byT w)) (S : Addr) (hSa : S ≠ a) (res : Value) (c₀ : Nat) (hS : s.heap.get? S = some { cls := .type "list", data := .seq #[] c₀ })
    (hR : ∀ h' d tk acc' c', (∀ b o, b ≠ S → s.heap.get? b = some o → h'.get? b = some o) → h'.get? S = some { cls := .type "list", dict := none, data := .seq acc' c', slots := #[] } → acc'.toList.Perm (es.toList.map (·.2)) → R (.ok (.ret res)) { s with heap := h', drawn := d, toks := tk }) :
    wpAny (model prog w) A.in1 (Builtin.List.listExtendWith (.ref S) (.ref a) res)
      (fun fin s' => match fin with | .done f => R (.ok f) s' | .again c' => c'.quiet = true ∧ codeAny (model prog w) A c' R s') (fun e s' => R (.error e) s') s := by
  have hT : s.TypeIs (.ref a) "set" := ⟨o, ho, D.ex.1⟩
  have hSlt := Heap.lt_size hS
  unfold Builtin.List.listExtendWith
  refine wpAny_bind (wpAny_typeOf (T := "set") hT ?_)
  have h1 : Builtin.List.listSameRef (.ref S) (.ref a) = false := by simp [Builtin.List.listSameRef, hSa]
  have h2 : (Value.type "set" == Value.type "list") = false := by decide
  have h3 : (Value.type "set" == Value.type "tuple") = false := by decide
  simp only [h1, h2, h3, Bool.or_false, Bool.false_eq_true, if_false]
  refine wpAny_bind (iter_set (A := A.in1) hh ho D fun I h1 d1 fp vs St hk hfp hI W st hvs => ?_)
  have hSf : S ∉ fp := fun hm => by
    rcases hfp S hm with e | e
    · exact hSa e
    · exact absurd hSlt (Nat.not_lt.mpr e)
  have hSI : ∀ {b o}, s.heap.get? b = some o → b ≠ I := fun e h => absurd (Heap.lt_size e) (Nat.not_lt.mpr (h ▸ hI))
  have hlen : vs.length = es.size := by rw [hvs.length_eq, List.length_map, Array.length_toList]
  have key : ∀ (h : Heap) (c₁ tk : Nat), St 0 h → (∀ b o, b ≠ S → s.heap.get? b = some o → h.get? b = some o) →
      h.get? S = some { cls := .type "list", data := .seq #[] c₁ } → codeAny (model prog w) A (.builtin "list.extend.loop" ⟨[.ref S, .ref I, res], []⟩) R { s with heap := h, drawn := d1, toks := tk } := by
    intro h c₁ tk hst hk hS₁
    refine codeAny_extend_loopS W.toS (fits_of_scanBound D.small) S hSf res es.size 0 _ #[] c₁ rfl (Nat.zero_le _) hst hS₁ (ItemsOf.nil _) fun s' acc' c' hm hS' hacc => ?_
    rw [Moved.eq_with hm]
    have hv : acc'.toList = vs := by
      apply List.ext_getElem?
      intro i
      rcases Nat.lt_or_ge i es.size with hi | hi
      · have hi' : i < acc'.size := by rw [hacc.1]; exact hi
        have h1 : acc'[i]? = some acc'[i] := Array.getElem?_eq_getElem hi'
        rw [Array.getElem?_toList, h1, hacc.2 i _ h1]
      · rw [List.getElem?_eq_none (by rw [Array.length_toList, hacc.1]; exact hi), List.getElem?_eq_none (by exact om281 hlen hi)]
    refine hR s'.heap d1 s'.toks acc' c' (fun b o hb e => hm.heap b o (fun hmem => ?_) (hk b o hb e)) hS' (by rw [hv]; exact hvs)
    rcases List.mem_cons.mp hmem with e' | hmem
    · exact hb e'
    · exact hSI e (List.mem_singleton.mp hmem)
  have hS₁ := hk _ _ hS
  refine wpAny_bind (wpAny_holding (hint_set (s := { s with heap := h1, drawn := d1 }) ⟨o, hk _ _ ho, D.ex.1⟩ ?_))
  refine wpAny_ite_split (fun _ => ?_) (fun _ => wpAny_pure ⟨plainId_quiet PySem.F.plain_extend_loop _, key _ c₀ _ st (fun b o _ e => hk _ _ e) hS₁⟩)
  refine wpAny_bind (wpAny_rule ?_)
  refine wpAny_bind ?_
  show wpAny _ _ (updateSeq S (·.push .none) >>= fun _ => updateSeq S (·.pop)) _ _ _
  refine wpAny_bind (wpAny_updateSeq hS₁ rfl ?_)
  have hS₂ := Heap.get?_update_self (Obj.mapSeq (·.push Value.none)) hS₁ rfl
  refine wpAny_updateSeq (hz := by seq_fits) hS₂ rfl ?_
  have hS₃ := Heap.get?_update_self (Obj.mapSeq (·.pop)) hS₂ rfl
  refine wpAny_pure ⟨plainId_quiet PySem.F.plain_extend_loop _, key _ _ _ ?_ (fun b o hb e => ?_) hS₃⟩
  · refine W.frame 0 _ _ st fun b hb o e => ?_
    have hbS : b ≠ S := fun h => hSf (h ▸ hb)
    exact (Heap.get?_update_other _ _ (Ne.symm hbS)).trans ((Heap.get?_update_other _ _ (Ne.symm hbS)).trans e)
  · exact (Heap.get?_update_other _ _ (Ne.symm hb)).trans ((Heap.get?_update_other _ _ (Ne.symm hb)).trans (hk _ _ e))

theorem collect_set {R : List Value → Shared → Prop} (hh : A.handled = none) (hS : StrSet prog w s.heap a ss (!byT w))
    (h : ∀ (h' : Heap) d (tk : Nat) (vs : List Value) (ks : List Str), (∀ b o, s.heap.get? b = some o → h'.get? b = some o) → StrsAre vs ks → ks.Perm ss → R vs { s with heap := h', drawn := d, toks := tk }) :
    wpAny (model prog w) A (collect (.ref a)) R E s := by
  obtain ⟨o, es, ep, t, ho, D⟩ := hS
  have hlt := Heap.lt_size ho
  have hfin : ∀ vs : List Value, vs.Perm (es.toList.map (·.2)) → ∃ ks, StrsAre vs ks ∧ ks.Perm ss := fun vs hp => by
    have h1 := elem_str D.el
    refine ⟨vs.map PyProof.Rows.strOf, ?_, ?_⟩
    · have hall : ∀ v ∈ vs, ∃ x t, v = .str x t := fun v hv => h1.all v (hp.mem_iff.mp hv)
      clear hp
      induction vs with
      | nil => exact .nil
      | cons v vs ih =>
        obtain ⟨x, t, rfl⟩ := hall v List.mem_cons_self
        exact .cons x t (ih fun v hv => hall v (List.mem_cons_of_mem _ hv))
    · refine (hp.map PyProof.Rows.strOf).trans ?_
      rw [h1.strs]
      exact D.perm
  unfold collect
  refine wpAny_bind (wpAny_runValue (codeAny_builtin entry_proto_collect' ?_))
  rw [Around.under_plainId PySem.F.plain_proto_collect _]
  show wpAny _ A.in1 (newList [] >>= fun l => again (.builtin "list.__iadd__" ⟨[l, .ref a], []⟩)) _ _ s
  refine wpAny_bind (wpAny_newObj_type ?_)
  refine wpAny_pure ⟨plainId_quiet PySem.F.plain_list_iadd _, codeAny_builtin entry_list_iadd' ?_⟩
  rw [Around.under_plainId PySem.F.plain_list_iadd _]
  have hS₁ : (s.heap.push { cls := .type "list", data := .seq ([] : List Value).toArray }).get? s.heap.objs.size = some { cls := .type "list", data := .seq #[] } := Heap.get?_push_size _ rfl
  show wpAny _ A.in1 (Builtin.List.listExtendWith (.ref s.heap.objs.size) (.ref a) (.ref s.heap.objs.size)) _ _ _
  have key := extend_set (A := A) (s := { s with heap := s.heap.push { cls := .type "list", data := .seq ([] : List Value).toArray } })
    (R := fun (q : Result) (s' : Shared) => ∃ (h' : Heap) (d : _) (tk : Nat) (acc' : Array Value) (c' : Nat), q = .ok (.ret (.ref s.heap.objs.size)) ∧ s' = { s with heap := h', drawn := d, toks := tk } ∧
      (∀ b o, s.heap.get? b = some o → h'.get? b = some o) ∧ h'.get? s.heap.objs.size = some { cls := .type "list", dict := none, data := .seq acc' c', slots := #[] } ∧ acc'.toList.Perm (es.toList.map (·.2)))
    hh (Heap.get?_push_of_some _ ho) D s.heap.objs.size (Nat.ne_of_gt hlt) (.ref s.heap.objs.size) 0 hS₁
    (fun h' d tk acc' c' hk hS' hacc => ⟨h', d, tk, acc', c', rfl, rfl, fun b o e => hk b o (Nat.ne_of_lt (Heap.lt_size e)) (Heap.get?_push_of_some _ e), hS', hacc⟩)
  refine wpAny_mono key (fun fin s' x => ?_) fun e s' x => ?_
  · cases fin with
    | done f =>
      obtain ⟨h', d, tk, acc', c', e, rfl, hk, hS', hacc⟩ := x
      cases e
      show wpAny _ A (load s.heap.objs.size >>= _) _ _ _
      refine wpAny_bind (wpAny_load hS' ?_)
      obtain ⟨ks, h1, h2⟩ := hfin _ hacc
      exact wpAny_pure (h h' d tk _ ks hk h1 h2)
    | again c₁ =>
      refine ⟨x.1, codeAny_mono x.2 fun q s₂ y => ?_⟩
      obtain ⟨h', d, tk, acc', c', rfl, rfl, hk, hS', hacc⟩ := y
      show wpAny _ A (load s.heap.objs.size >>= _) _ _ _
      refine wpAny_bind (wpAny_load hS' ?_)
      obtain ⟨ks, h1, h2⟩ := hfin _ hacc
      exact wpAny_pure (h h' d tk _ ks hk h1 h2)
  · obtain ⟨_, _, _, _, _, e', _⟩ := x
    cases e'
end

section
variable {prog : Program} {w : World} {A : Around} {E : Value → Shared → Prop} {s : Shared}
theorem code_set_new_led (a : Value) {Q₁ : Value → Shared → Prop}
    (h : Q₁ (.ref s.heap.objs.size) { s with heap := s.heap.push { cls := .type "set", dict := none, data := .set #[] 0 (.fresh 0 0 (!byT w)) } }) :
    codeAny (model prog w) A (.call (.builtin "set.__new__") ⟨[.type "set", a], []⟩) (wants Q₁ E) s := by
  refine codeAny_of_tree ?_
  show wpAny _ A.in1 (do checkBuiltinCall "set.__new__" ⟨[.type "set", a], []⟩; again (.builtin "set.__new__" ⟨[.type "set", a], []⟩)) _ _ s
  refine wpAny_bind (wpAny_of_eq (F.newCall_set_1 a) (wpAny_pure ⟨plainId_quiet F.plain_set_new _, codeAny_builtin F.entry_set_new ?_⟩))
  rw [Around.under_plainId F.plain_set_new _]
  unfold Builtin.«set.__new__» Builtin.Frozenset.newClass
  have hsub := sub_set_self
  obtain ⟨hp, g, d, tk, os⟩ := s
  dsimp only
  wp_walk
  refine wpAny_askSetting (wpAny_pure ?_)
  dsimp only
  simp only [newObj]
  refine wpAny_bind (wpAny_alloc (wpAny_pure ?_))
  exact wpAny_pure h

set_option maxHeartbeats 3200000 in
/-- set of a list of texts -/
theorem call_set_strs {l : Addr} {items : Array Value} {xs : List Str} {Q : Value → Shared → Prop}
    (hh : A.handled = none) (hl : s.heap.IsList l items) (hi : StrsAre items.toList xs) (hb : items.size + 1 < scanBound)
    (h : ∀ (h' : Heap) (tk : Nat), StrSet prog w h' s.heap.objs.size (xs.foldl stepS []) (!byT w) →
      (∀ b o, s.heap.get? b = some o → h'.get? b = some o) → Q (.ref s.heap.objs.size) { s with heap := h', toks := tk }) :
    wpAny (model prog w) A (call (.type "set") [.ref l]) Q E s := by
  obtain ⟨c, tl, hmro⟩ := F.called_set.mro
  have hmade := F.called_set.made
  have hsub := F.called_set.sub
  refine wpAny_call (codeAny_of_tree ?_)
  show wpAny _ _ (callAny (.type "set") _) _ _ _
  refine wpAny_pure ⟨Code.quiet_builtin _ (by decide +kernel), codeAny_builtin F.entry_type_call ?_⟩
  rw [Around.under_plain (weight_type_call_type "set" [.ref l] []) rfl]
  have h1 := F.called_set.notType
  have h2 := F.called_set.canCreate
  have hct := F.typeCall_set_1 (.ref l)
  repeat (any_goals (first | assumption | wp_step))
  refine codeAny_mono (code_set_new_led (.ref l) (E := E) (Q₁ := fun obj s₁ => obj = .ref s.heap.objs.size ∧ s₁ = { s with heap := s.heap.push { cls := .type "set", dict := none, data := .set #[] 0 (.fresh 0 0 (!byT w)) } }) ⟨rfl, rfl⟩) fun r s₁ hr => ?_
  cases r with
  | error e => exact hr
  | ok fl =>
    cases fl with
    | ret obj =>
      obtain ⟨rfl, rfl⟩ := hr
      have hS : (s.heap.push { cls := .type "set", dict := none, data := .set #[] 0 (.fresh 0 0 (!byT w)) }).get? s.heap.objs.size = some { cls := .type "set", dict := none, data := .set #[] 0 (.fresh 0 0 (!byT w)) } := Heap.get?_push_size _ rfl
      have hT : Shared.TypeIs { s with heap := s.heap.push { cls := .type "set", dict := none, data := .set #[] 0 (.fresh 0 0 (!byT w)) } } (.ref s.heap.objs.size) "set" := ⟨_, hS, rfl⟩
      have hli := F.called_set.init.lookup
      have hbi := F.called_set.init.bind (.ref s.heap.objs.size)
      repeat (any_goals (first | assumption | wp_step))
      refine codeAny_mono (codeAny_call_builtin (R := wants (fun r s₂ => r = .none ∧ ∃ h' tk, s₂ = { s with heap := h', toks := tk } ∧
          StrSet prog w h' s.heap.objs.size (xs.foldl stepS []) (!byT w) ∧
          (∀ b o, s.heap.get? b = some o → h'.get? b = some o)) E) F.called_set.init.plain F.entry_set_init (check_set_init_1 hT ?_)) fun r₂ s₂ hr₂ => ?_
      · obtain ⟨ol, hol, hcl, nl, hdl⟩ := hl
        obtain ⟨ocls, odict, odata, oslots⟩ := ol
        simp only at hcl hdl
        subst hcl; subst hdl
        have hol' : (s.heap.push { cls := .type "set", dict := none, data := .set #[] 0 (.fresh 0 0 (!byT w)) }).get? l = some { cls := .type "list", dict := odict, data := .seq items nl, slots := oslots } := Heap.get?_push_of_some _ hol
        have hsls := F.sub_list_set
        have hslf := F.sub_list_frozenset
        have hne : (Value.type "list" == Value.type "dict") = false := by decide
        have hl1 : (s.heap.push { cls := .type "set", dict := none, data := .set #[] 0 (.fresh 0 0 (!byT w)) }).IsList l items := ⟨_, hol', rfl, nl, rfl⟩
        unfold Builtin.«set.__init__» noKeywords Builtin.Frozenset.updateFrom
        generalize hPI : pyIter = PI
        wp_walk
        subst hPI
        refine wpAny_pyIter_list hl1 ?_
        refine wpAny_bind (wpAny_runValue ?_)
        have hlS : l < s.heap.objs.size := Heap.lt_size hol
        have hh3 : A.in1.in1.in1.handled = none := by simp [hh]
        have hneI : l ≠ (s.heap.push { cls := .type "set", dict := none, data := .set #[] 0 (.fresh 0 0 (!byT w)) }).objs.size := by
          rw [Heap.size_push]; exact Nat.ne_of_lt (Nat.lt_succ_of_lt hlS)
        have hSf : s.heap.objs.size ∉ [(s.heap.push { cls := .type "set", dict := none, data := .set #[] 0 (.fresh 0 0 (!byT w)) }).objs.size, l] := by
          rw [Heap.size_push]; simp only [List.mem_cons, List.mem_singleton, List.not_mem_nil, or_false, not_or]
          exact ⟨Nat.ne_of_lt (Nat.lt_succ_self _), Nat.ne_of_gt hlS⟩
        have hxl : xs.length = items.size := by rw [← hi.len_eq, Array.length_toList]
        refine set_loop (led := !byT w) ((Walks.list hh3 _ l hneI items).toS) s.heap.objs.size
          hSf xs [] 0 _ (by exact om280 hxl) (fun j v hv => ?_)
          ⟨⟨_, Heap.get?_push_size _ rfl, rfl, rfl⟩, (hl1.push _)⟩ ?hS0 (by simpa [hxl] using hb) ?hR
        · have hv' : items.toList[j]? = some v := by rw [Array.getElem?_toList]; simpa using hv
          exact hi.item j v hv'
        case hS0 =>
          have hget : ((s.heap.push { cls := .type "set", dict := none, data := .set #[] 0 (.fresh 0 0 (!byT w)) }).push { cls := .type "list_iterator", data := .fields #[.ref l, .int 0 0] }).get? s.heap.objs.size
              = some { cls := .type "set", dict := none, data := .set #[] 0 (.fresh 0 0 (!byT w)) } := Heap.get?_push_of_some _ hS
          exact ⟨_, #[], 0, _, hget, ⟨rfl, rfl, rfl⟩, rfl, fun e he => by simp at he, .refl _, by unfold scanBound; decide, rfl, rfl, .inl rfl⟩
        case hR =>
          intro s' hm hS'
          obtain ⟨h', g', d', tk', os'⟩ := s'
          have eg : g' = s.gens := hm.gens
          have ed : d' = s.drawn := hm.drawn
          have eo : os' = s.os := hm.os
          subst eg; subst ed; subst eo
          show wpAny _ _ _ _ _ _
          refine wpAny_pure ?_
          show wpAny _ _ (ret Value.none) _ _ _
          refine wpAny_pure ⟨rfl, h', tk', rfl, hS', fun b o e => ?_⟩
          have hb := Heap.lt_size e
          have hb1 : b ≠ s.heap.objs.size := Nat.ne_of_lt hb
          have hb2 : b ≠ (s.heap.push { cls := .type "set", dict := none, data := .set #[] 0 (.fresh 0 0 (!byT w)) }).objs.size := by
            rw [Heap.size_push]; exact Nat.ne_of_lt (Nat.lt_succ_of_lt hb)
          exact hm.heap b o (by simp only [List.mem_cons, List.mem_singleton, List.not_mem_nil, or_false, not_or]; exact ⟨hb1, hb2⟩) (Heap.get?_push_of_some _ (Heap.get?_push_of_some _ e))
      · cases r₂ with
        | error e => exact hr₂
        | ok fl₂ =>
          cases fl₂ with
          | ret r =>
            obtain ⟨rfl, h', tk, rfl, hS', hk'⟩ := hr₂
            repeat (any_goals (first | assumption | wp_step))
            exact h _ _ hS' hk'
          | _ => exact hr₂.elim
    | _ => exact hr.elim
end
end Mine

set_option autoImplicit false
set_option backward.match.sparseCases true
namespace Mine
open PySem PyProof.Rows PySem.SeqAt
variable {C : Fix} {σ : AH} {g g' : Cfg} {h h' : Heap} {s s' : Shared} {A : Around} {d : Nat}
  {Q : Value → Shared → Prop} {E : Value → Shared → Prop}
theorem foldS_len : ∀ (l acc : List Str), (l.foldl stepS acc).length ≤ acc.length + l.length
  | [], acc => Nat.le_refl _
  | x :: l, acc => by
    have h1 := foldS_len l (stepS acc x)
    have h2 : (stepS acc x).length ≤ acc.length + 1 := by unfold stepS; split <;> simp
    show (l.foldl stepS (stepS acc x)).length ≤ _
    rw [List.length_cons]; exact om80 h1 h2
theorem PostO.shift {o : Option Out} (e : Ext noOwn g s g' s') (h : PostO C σ g s o Q) : PostO C σ g' s' o Q := by
  cases o with
  | none => exact h
  | some o => exact fun g2 s2 x e2 R hv => h g2 s2 x (e.trans e2) R (by
      cases o with
      | v v => exact hv
      | f f => obtain ⟨a, h1, h2, h3⟩ := hv; exact ⟨a, h1, none_of_live e.live h2, h3⟩)
theorem set_call (hA : AOK A d) (R : C.Rel σ g s.heap) {v : PV} {x : Value} {ss : List Str} (hv : C.VR g s.heap v x) (he : setD (deref σ v) = some ss) (hl : ss.length < sortMost)
    (h : ∀ (S : Addr) (h' : Heap) (tk : Nat), (∀ b o, s.heap.get? b = some o → h'.get? b = some o) → StrSet C.prog C.w h' S (ss.foldl stepS []) (!byT C.w) → Q (.ref S) { s with heap := h', toks := tk }) :
    wpAny (model C.prog C.w) A (call (.type "set") [x]) Q E s := by
  have hd := deref_sound R hv
  generalize deref σ v = u at hd he
  cases u with
  | lst l =>
    obtain ⟨a, vs, rfl, hl', hr⟩ := hd
    have hS := vrs_strs hr he
    have h64 : sortMost ≤ 100 := by decide
    refine call_set_strs hA.hand (isList_of hl') hS ?_ fun h' tk hset hk => h _ h' tk hk hset
    have : vs.size = ss.length := by rw [← hS.len_eq, Array.length_toList]
    rw [this]; unfold scanBound; exact om282 hl h64
  | _ => cases he
theorem sorted_set (hA : AOK A d) (R : C.Rel σ g s.heap) {S : Addr} {ss : List Str} (hS : StrSet C.prog C.w s.heap S ss (!byT C.w)) (hl : ss.length < sortMost) (hp : PostO C σ g s (some (.f (.list ((sortS ss).map .str)))) Q) :
    wpAny (model C.prog C.w) A (call (.builtin "sorted") [.ref S]) Q E s :=
  sorted_tail R hl (fun R' hR' => collect_set (by simpa using hA.hand) hS fun h' dr tk vs ks hk h1 h2 => hR' h' dr tk vs ks hk h1 h2) hp
end Mine

set_option autoImplicit false
set_option backward.match.sparseCases true
set_option linter.unusedVariables false
namespace Mine
open PySem PyProof.Rows PySem.SeqAt

variable {C : Fix} {σ σ' : AH} {g g' : Cfg} {h h' : Heap} {s s' : Shared} {own : Addr → Prop} {A : Around} {d : Nat}
  {Q : Value → Shared → Prop} {E : Value → Shared → Prop}

/-! ### changing a tracked thing -/
theorem vrs_but {a : Addr} (hf : ¬ g.Φ a) (hk : ∀ b o, b ≠ a → h.get? b = some o → h'.get? b = some o) {v : List PV} {x : List Value} (hv : C.VRs g h v x) : C.VRs g h' v x :=
  hv.mono (List.prefix_refl _) (fun _ q => q) fun b o hb e => hk b o (fun q => hf (q ▸ hb)) e
theorem vr_but {a : Addr} (hf : ¬ g.Φ a) (hk : ∀ b o, b ≠ a → h.get? b = some o → h'.get? b = some o) {v : PV} {x : Value} (hv : C.VR g h v x) : C.VR g h' v x :=
  hv.mono (List.prefix_refl _) (fun _ q => q) fun b o hb e => hk b o (fun q => hf (q ▸ hb)) e
theorem vrd_but {a : Addr} (hf : ¬ g.Φ a) (hk : ∀ b o, b ≠ a → h.get? b = some o → h'.get? b = some o) {v : List (Str × PV)} {x : List (Str × Value)} (hv : C.VRd g h v x) : C.VRd g h' v x :=
  hv.mono (List.prefix_refl _) (fun _ q => q) fun b o hb e => hk b o (fun q => hf (q ▸ hb)) e
theorem set_ext {a : Addr} {tk : Nat} (hm : a ∈ g.μ) (hl : ¬ g.lk a) (hk : ∀ b o, b ≠ a → s.heap.get? b = some o → h'.get? b = some o) (ha : (h'.get? a).isSome = true) : Ext own g s g { s with heap := h', toks := tk } :=
  Ext.heap (fun b o e hb _ => hk b o (fun q => by subst q; exact hb.elim (fun q => q hm) hl) e) fun b hb => by
    by_cases hba : b = a
    · subst hba; exact ha
    · obtain ⟨o, ho⟩ := Option.isSome_iff_exists.mp hb; rw [hk b o hba ho]; rfl

noncomputable def PostS (C : Fix) (g : Cfg) (s : Shared) (r : Option (PV × AH)) (Q : Value → Shared → Prop) : Prop := match r with
  | none => False
  | some (v, σ') => ∀ g' s' y, Ext noOwn g s g' s' → C.Rel σ' g' s'.heap → C.VR g' s'.heap v y → Q y s'

theorem PostS.list {i : Nat} {a : Addr} {l : List PV} {v : PV} {y : Value} {tk : Nat} {vs : Array Value} (R : C.Rel σ g s.heap) (hi : g.μ[i]? = some a) (hl : ¬ g.lk a) (hp : PostS C g s (some (v, σ.set i (.list false l))) Q)
    (hk : ∀ b o, b ≠ a → s.heap.get? b = some o → h'.get? b = some o) (hx : IsListX h' a vs) (hv : C.VRs g s.heap l vs.toList) (hy : C.VR g s.heap v y) : Q y { s with heap := h', toks := tk } := by
  have hf := R.rel.disj a (List.mem_of_getElem? hi)
  refine hp g _ y (set_ext (List.mem_of_getElem? hi) hl hk (let ⟨n, e⟩ := hx; isSome_of e)) (R.set hi hk ⟨⟨fun q => (nomatch q), fun q => (hl q).elim⟩, vs, hx, vrs_but (C := C) hf hk hv⟩) (vr_but (C := C) hf hk hy)
theorem PostS.same {v : PV} {y : Value} {tk : Nat} (R : C.Rel σ g s.heap) (hp : PostS C g s (some (v, σ)) Q) (hy : C.VR g s.heap v y) : Q y { s with toks := tk } :=
  hp g _ y (Ext.toks (Ext.refl g s)) R hy

theorem updX {a : Addr} {vs : Array Value} {n : Nat} {f : Array Value → Array Value} (hx : h.get? a = some { cls := .type "list", dict := none, data := .seq vs n, slots := #[] }) : IsListX (h.update a (Obj.mapSeq f)) a (f vs) := by
  have e := Heap.get?_update_self (Obj.mapSeq f) hx rfl
  exact ⟨_, e⟩
theorem upd_but {a : Addr} {f : Obj → Obj} : ∀ b o, b ≠ a → h.get? b = some o → (h.update a f).get? b = some o := fun b o hb e => (Heap.get?_update_other _ _ (Ne.symm hb)).trans e

noncomputable def BM.id : BM → String
  | .append => "list.append" | .extend => "list.extend" | .get => "dict.get"

theorem tracked_list (R : C.Rel σ g s.heap) {i : Nat} {a : Addr} {l : List PV} (ho : σ[i]? = some (.list false l)) (hi : g.μ[i]? = some a) : ¬ g.lk a ∧ ∃ vs n, s.heap.get? a = some { cls := .type "list", dict := none, data := .seq vs n, slots := #[] } ∧ C.VRs g s.heap l vs.toList := by
  obtain ⟨h1, vs, ⟨n, h2⟩, h3⟩ := R.rel.objs i _ a ho hi
  exact ⟨fun q => (nomatch h1.mpr q), vs, n, h2, h3⟩
theorem tracked_dict (R : C.Rel σ g s.heap) {i : Nat} {a : Addr} {l : List (Str × PV)} (ho : σ[i]? = some (.dict false l)) (hi : g.μ[i]? = some a) : ¬ g.lk a ∧ ∃ kvs, s.heap.DictOf (strKind C.prog C.w) a kvs ∧ C.VRd g s.heap l kvs := by
  obtain ⟨h1, vs, h2, h3⟩ := R.rel.objs i _ a ho hi
  exact ⟨fun q => (nomatch h1.mpr q), vs, h2, h3⟩

theorem PostS.bind {α : Type} {o : Option α} {f : α → Option (PV × AH)} (hp : PostS C g s (o.bind f) Q) : ∃ x, o = some x ∧ PostS C g s (f x) Q := bind_elim (fun o => PostS C g s o Q) id hp
theorem openL_eq {i : Nat} {l : List PV} (h : openL σ i = some l) : σ[i]? = some (.list false l) := by
  unfold openL at h
  generalize σ[i]? = o at h ⊢
  rcases o with _ | (⟨_ | _, _⟩ | _) <;> cases h
  rfl
theorem openD_eq {i : Nat} {l : List (Str × PV)} (h : openD σ i = some l) : σ[i]? = some (.dict false l) := by
  unfold openD at h
  generalize σ[i]? = o at h ⊢
  rcases o with _ | (_ | ⟨_ | _, _⟩) <;> cases h
  rfl
theorem pair_vr {args : List PV} {xs : List Value} {p : PV × PV} (e : pairA args = some p) (hv : C.VRs g h args xs) : ∃ x y, xs = [x, y] ∧ C.VR g h p.1 x ∧ C.VR g h p.2 y := by
  rcases args with _ | ⟨a, _ | ⟨b, _ | ⟨c, l⟩⟩⟩ <;> cases e
  cases hv with | cons h1 h2 => cases h2 with | cons h2 h3 => cases h3; exact ⟨_, _, rfl, h1, h2⟩

theorem bm_sound (hA : AOK A d) (R : C.Rel σ g s.heap) {m : BM} {o : PV} {args : List PV} {x : Value} {xs : List Value} (hx : C.VR g s.heap o x) (hv : C.VRs g s.heap args xs) (hp : PostS C g s (bmP σ m o args) Q) :
    wpAny (model C.prog C.w) A (call (.builtin m.id) (x :: xs)) Q E s := by
  cases m with
  | append =>
    refine byC fun hZ => ?_
    obtain ⟨v, e, hp⟩ := PostS.bind hp
    obtain ⟨y, rfl, h1⟩ := one_vr e hv
    obtain ⟨i, e, hp⟩ := hp.bind
    refine hZ ?_; clear hZ
    rw [refOf_eq e] at hx
    refine byC fun hZ => ?_
    obtain ⟨a, rfl, hi⟩ := VR_inv hx
    obtain ⟨l, e, hp⟩ := hp.bind
    obtain ⟨hl, vs, n, h3, h4⟩ := tracked_list R (openL_eq e) hi
    refine hZ ?_; clear hZ
    have h5 := h4.size
    split at hp
    · rename_i hs
      have hs := small_le hs
      refine wpAny_list_append_plain ⟨n, h3⟩ (fun h' hx' hsb => ?_) (by rw [h5, sizeLine_eq]; exact om250 hs)
      refine hp.list (tk := s.toks) R hi hl (fun b ob hb e => by rw [hsb.2 b hb]; exact e) (let ⟨n', e⟩ := hx'; ⟨n', e⟩) ?_ .none
      rw [Array.toList_push]; exact h4.append (.cons h1 .nil)
    · exact hp.elim
  | extend =>
    refine byC fun hZ => ?_
    obtain ⟨v, e, hp⟩ := PostS.bind hp
    obtain ⟨y, rfl, h1⟩ := one_vr e hv
    obtain ⟨i, e, hp⟩ := hp.bind
    refine hZ ?_; clear hZ
    rw [refOf_eq e] at hx
    refine byC fun hZ => ?_
    obtain ⟨a, rfl, hi⟩ := VR_inv hx
    obtain ⟨r, hr, hp⟩ := hp.bind
    obtain ⟨l, e, hp⟩ := hp.bind
    obtain ⟨hl, vs, n, h3, h4⟩ := tracked_list R (openL_eq e) hi
    refine hZ ?_; clear hZ
    have h5 := h4.size
    split at hp
    · rename_i hs
      have hs := small_le hs
      have fits : ∀ k : Nat, k = r.length → ¬(!vs.isEmpty && Builtin.List.listTooLong (vs.size + k)) = true := by
        intro k hk hc
        have := (Bool.and_eq_true_iff.mp hc).2
        simp only [Builtin.List.listTooLong, decide_eq_true_eq, sizeLine_eq] at this
        exact (om285 h5 hs hk this).elim
      have hd := deref_sound R h1
      rcases seqOf_eq hr with hr | hr
      · rw [hr] at hd
        refine byC fun hZ => ?_
        obtain ⟨b, ws, rfl, ⟨n2, hl2⟩, hr2⟩ := hd
        refine hZ ?_; clear hZ
        have h7 := hr2.size
        refine call_meets PySem.F.slot_list_extend ⟨_, h3, rfl⟩ PySem.F.entry_list_extend (PySem.F.args_list_extend_2 _ _) (AutoSeq1.list_extend_list_tuple_0 a vs n _ _ n2 (fits _ h7) (by rw [sizeLine_eq]; exact om284 h5 hs) (by rw [sizeLine_eq]; exact om283 h5 hs h7)) ⟨h3, hl2, ?_⟩
        refine hp.list (tk := s.toks) R hi hl upd_but (updX h3) ?_ .none
        rw [Array.toList_append]; exact h4.append hr2
      · rw [hr] at hd
        refine byC fun hZ => ?_
        obtain ⟨b, ws, rfl, ⟨n2, hl2⟩, hr2⟩ := hd
        refine hZ ?_; clear hZ
        have h7 := hr2.size
        refine call_meets PySem.F.slot_list_extend ⟨_, h3, rfl⟩ PySem.F.entry_list_extend (PySem.F.args_list_extend_2 _ _) (AutoSeq1.list_extend_list_list_0 a vs n _ _ n2 (fits _ h7) (by rw [sizeLine_eq]; exact om284 h5 hs) (by rw [sizeLine_eq]; exact om283 h5 hs h7)) ⟨h3, hl2, ?_⟩
        refine hp.list (tk := s.toks) R hi hl upd_but (updX h3) ?_ .none
        rw [Array.toList_append]; exact h4.append hr2
    · exact hp.elim
  | get =>
    refine byC fun hZ => ?_
    obtain ⟨p, e, hp⟩ := PostS.bind hp
    obtain ⟨y, z, rfl, h1, h2⟩ := pair_vr e hv
    obtain ⟨k, e, hp⟩ := hp.bind
    obtain ⟨t, rfl⟩ := str_vr e h1
    obtain ⟨l, e, hp⟩ := hp.bind
    refine hZ ?_; clear hZ
    have hd := deref_sound R hx
    rw [dctOf_eq e] at hd
    refine byC fun hZ => ?_
    obtain ⟨a, kvs, rfl, hm, h5, h6⟩ := hd
    refine hZ ?_; clear hZ
    refine call_meetsIn PySem.F.slot_dict_get h5.typeIs PySem.F.entry_dict_get (PySem.F.args_dict_get_3 _ _ _) (meets_dict_get_default (strKind C.prog C.w) a (strKind_is C.prog C.w k t) (by simpa using hm) _) ⟨_, h5.mapOf, ?_⟩
    have h7 := h6.get k
    cases hq : dget l k with
    | none => rw [hq] at h7 hp; have h7 : valueAt kvs k = none := h7; rw [h7]; exact hp.same R h2
    | some u => rw [hq] at h7 hp; obtain ⟨w, h8, h9⟩ := h7; rw [h8]; exact hp.same R h9
end Mine

set_option autoImplicit false
set_option backward.match.sparseCases true
set_option linter.unusedVariables false
namespace Mine
open PySem PyProof.Rows PySem.SeqAt

variable {C : Fix} {σ σ' : AH} {g g' : Cfg} {h h' : Heap} {s s' : Shared} {own : Addr → Prop} {A : Around} {d : Nat}
  {Q : Value → Shared → Prop} {E : Value → Shared → Prop}

/-! ### slices -/
/-- the upper part: none, or a number -/
inductive HiP (n : Nat) : Value → Option Int → Nat → Prop where
  | none : HiP n .none none n
  | int (b : Nat) (t : Tok) : HiP n (.int b t) (some (b : Int)) (min b n)
theorem HiP.part {n k : Nat} {v : Value} {o : Option Int} (x : HiP n v o k) : IsPart v o := by cases x <;> constructor
theorem adjust_hi {a n k : Nat} {v : Value} {o : Option Int} (x : HiP n v o k) : Builtin.Slice.sliceAdjust (some (a : Int)) o 1 (n : Int) = (((min a n : Nat) : Int), ((k : Nat) : Int)) := by
  unfold Builtin.Slice.sliceAdjust
  have h1 : ¬ ((1 : Int) < 0) := by decide
  have h2 : ¬ ((a : Int) < 0) := by exact om286
  cases x with
  | none => simp only [h1, h2, if_false]; congr 1; exact om300
  | int b t =>
    have h3 : ¬ ((b : Int) < 0) := by exact om286
    simp only [h1, h2, h3, if_false]
    congr 1 <;> exact om300
theorem places_hi (a b : Nat) : Builtin.Slice.slicePlaces (a : Int) (b : Int) 1 = b - a := by
  unfold Builtin.Slice.slicePlaces
  have h1 : (1 : Int) > 0 := by decide
  simp only [h1, if_true, Int.ediv_one]
  split <;> (first | exact om298 | exact om299 (by assumption))
theorem sliceApplied_hi {sl : Addr} {a n k : Nat} {u : Tok} {v : Value} {o : Option Int} {Q : Int × Int × Nat → Shared → Prop} (hs : s.heap.IsSliceOf sl (.int a u) v .none) (x : HiP n v o k) (h : Q (((min a n : Nat) : Int), 1, k - min a n) s) :
    wpAny (model C.prog C.w) A (Builtin.Slice.sliceApplied (.ref sl) (pure (n : Int))) Q E s := by
  refine byC fun hZ => ?_
  obtain ⟨os, hos, hcs, hds⟩ := id hs
  refine hZ ?_; clear hZ
  unfold Builtin.Slice.sliceApplied Builtin.Slice.sliceFields
  refine wpAny_bind (wpAny_bind (wpAny_field hos hds (x := .int a u) rfl (wpAny_bind (wpAny_field hos hds (x := v) rfl (wpAny_bind (wpAny_field hos hds (x := .none) rfl (wpAny_pure ?_)))))))
  refine wpAny_bind (slicePart_none ?_)
  show wpAny _ _ (if ((1 : Int) == 0) = true then _ else _) _ _ s
  rw [if_neg (by decide)]
  have fin : wpAny (model C.prog C.w) A (match Builtin.Slice.sliceAdjust (some (a : Int)) o 1 (n : Int) with | (lo, hi) => pure (lo, (1 : Int), Builtin.Slice.slicePlaces lo hi 1)) Q E s := by
    rw [adjust_hi x]
    show wpAny _ _ (pure (((min a n : Nat) : Int), (1 : Int), Builtin.Slice.slicePlaces ((min a n : Nat) : Int) (k : Int) 1)) _ _ s
    rw [places_hi]
    exact wpAny_pure h
  cases x with
  | none => exact wpAny_bind (slicePart_int (wpAny_bind (slicePart_none (wpAny_bind (wpAny_pure fin)))))
  | int b t => exact wpAny_bind (slicePart_int (wpAny_bind (slicePart_int (wpAny_bind (wpAny_pure fin)))))
theorem pick_hi (xs : Array Value) (a k : Nat) : ((List.range k).filterMap fun (i : Nat) => xs[((a : Int) + (i : Int) * 1).toNat]?).toArray = ((xs.toList.drop a).take k).toArray := by
  have e : (fun (i : Nat) => xs[((a : Int) + (i : Int) * 1).toNat]?) = fun i => xs[a + i]? := by
    funext i
    have : ((a : Int) + (i : Int) * 1).toNat = a + i := by exact om297
    rw [this]
  rw [e]
  have := pick_run xs a k
  rw [List.filterMap_map] at this
  exact congrArg List.toArray this
theorem cut_eq {α : Type} (l : List α) (a b k : Nat) (hk : k = min b l.length) : (l.drop (min a l.length)).take (k - min a l.length) = (l.take b).drop a := by
  subst hk
  apply List.ext_getElem?
  intro i
  rw [List.getElem?_take, List.getElem?_drop, List.getElem?_drop, List.getElem?_take]
  by_cases h : a ≤ l.length
  · rw [Nat.min_eq_left h]
    by_cases h1 : i < min b l.length - a
    · rw [if_pos h1, if_pos (by exact om296 h1)]
    · rw [if_neg h1]
      by_cases h2 : a + i < b
      · rw [if_pos h2, List.getElem?_eq_none (by exact om295 h1 h2)]
      · rw [if_neg h2]
  · rw [Nat.min_eq_right (show l.length ≤ a by exact om294 h), if_neg (by exact om293)]
    by_cases h2 : a + i < b
    · rw [if_pos h2, List.getElem?_eq_none (by exact om292 h)]
    · rw [if_neg h2]

theorem getItem_tuple_cut {t sl : Addr} {items : Array Value} {a b k : Nat} {u : Tok} {v : Value} {o : Option Int} (ht : IsTup s.heap t items) (hs : s.heap.IsSliceOf sl (.int a u) v .none) (x : HiP items.size v o k) (hk : k = min b items.size) (h1 : 1 ≤ a) (h2 : 1 ≤ items.size)
    (h : Q (.ref s.heap.objs.size) { s with heap := s.heap.push { cls := .type "tuple", data := .seq ((items.toList.take b).drop a).toArray } })
    (hsz : items.size ≤ sizeLine) : wpAny (model C.prog C.w) A (getItem (.ref t) (.ref sl)) Q E s := by
  have hdrop : sizeOk (.seq ((items.toList.take b).drop a).toArray) := by
    show ((items.toList.take b).drop a).toArray.size ≤ sizeLine
    rw [List.size_toArray, List.length_drop, List.length_take, Array.length_toList]
    exact om291 hsz
  refine byC fun hZ => ?_
  obtain ⟨os, hos, hcs, hds⟩ := id hs
  refine hZ ?_; clear hZ
  have hTs : s.TypeIs (.ref sl) "slice" := ⟨os, hos, hcs⟩
  unfold getItem
  try with_reducible refine wpAny_holding ?_
  first | refine wpAny_bind (wpAny_pure ?_) | skip
  refine wpAny_bind (wpAny_sequenceKey ht.typeIs (by decide) ?_)
  refine wpAny_bind (wpAny_callSpecial?_slot (name := Str.ofString "__getitem__") ht.typeIs PySem.F.slot_tuple_getitem
    (wpAny_call_entry PySem.F.slot_tuple_getitem ht.typeIs PyProof.Rows.entry_tuple_getitem ?_ (PyProof.Rows.args_tuple_getitem _ _)))
  show wpAny _ _ (Builtin.Tuple.tupleItemsOf (.ref t) >>= _) _ _ s
  refine wpAny_bind (tupleItemsOf_ ht ?_)
  refine wpAny_bind (wpAny_typeOf hTs ?_)
  rw [if_pos (by decide)]
  refine wpAny_bind (sliceApplied_hi hs x ?_)
  have hno : ¬ ((((min a items.size : Nat) : Int) == 0 && (1 : Int) == 1 && (k - min a items.size) == items.size) = true) := by
    have : (((min a items.size : Nat) : Int) == 0) = false := by rw [beq_eq_false_iff_ne]; exact om290 h1 h2
    rw [this]; simp
  show wpAny _ _ (if (((min a items.size : Nat) : Int) == 0 && (1 : Int) == 1 && (k - min a items.size) == items.size) = true then _ else _) _ _ s
  rw [if_neg hno, pick_hi]
  have e : (items.toList.drop (min a items.size)).take (k - min a items.size) = (items.toList.take b).drop a := by
    have := cut_eq items.toList a b k (by rw [Array.length_toList]; exact hk)
    rwa [Array.length_toList] at this
  rw [e]
  first
    | exact wpAny_bind (m := Builtin.Tuple.tupleExact _) (wpAny_newObj_type (wpAny_pure ⟨_, rfl, wpAny_pure h⟩) hdrop)
    | exact wpAny_bind (m := Builtin.Tuple.tupleExact _) (wpAny_newObj_type (wpAny_bind (wpAny_pure (wpAny_pure ⟨_, rfl, wpAny_pure h⟩))) hdrop)
    | exact wpAny_bind (wpAny_bind (m := Builtin.Tuple.tupleExact _) (wpAny_newObj_type (wpAny_pure (wpAny_pure ⟨_, rfl, wpAny_pure h⟩)) hdrop))
    | exact wpAny_bind (wpAny_bind (m := Builtin.Tuple.tupleExact _) (wpAny_newObj_type (wpAny_pure ⟨_, rfl, wpAny_pure h⟩) hdrop))

theorem isTup_of {a : Addr} {vs : Array Value} (x : IsTupX h a vs) : IsTup h a vs := let ⟨n, e⟩ := x; ⟨_, e, rfl, n, rfl⟩

/-- a slice of a tuple or a list, from the slice object on -/
theorem cut_sound (R : C.Rel σ g s.heap) {value lo : Expr} {hi : Option Expr} {pp : Pos} {w : PV} {x v : Value} {a b : Nat} {u : Tok} {o : Option Int} (hd : VRi C g s.heap w x) (hx' : ∀ n, n ≤ 1000000 → ∃ k, HiP n v o k ∧ k = min b n)
    (hp : PostO C σ g s (cutD a b w) Q) :
    wpAny (model C.prog C.w) A (subscriptTail value (.Slice (some lo) hi none pp) x (.ref s.heap.objs.size)) Q E { s with heap := s.heap.push { cls := .type "slice", data := .fields #[.int a u, v, .none] } } := by
  have hk : ∀ b ob, s.heap.get? b = some ob → (s.heap.push { cls := .type "slice", data := .fields #[.int a u, v, .none] }).get? b = some ob := fun b ob e => Heap.get?_push_of_some _ e
  have R1 : C.Rel σ g (s.heap.push { cls := .type "slice", data := .fields #[.int a u, v, .none] }) := R.kept (.of_all hk)
  cases w with
  | tup l =>
    refine byC fun hZ => ?_
    obtain ⟨p, vs, rfl, hl, hv⟩ := hd
    have hp := PostO.ite (C := C) (σ := σ) (g := g) (s := s) (p := (small l.length && decide (1 ≤ a) && decide (1 ≤ l.length)) = true) (o := .v (.tup ((l.take b).drop a))) hp
    obtain ⟨c12, c3⟩ := Bool.and_eq_true_iff.mp hp.1
    obtain ⟨c1, c2⟩ := Bool.and_eq_true_iff.mp c12
    have c1 := small_le c1
    have c2 := of_decide_eq_true c2
    have c3 := of_decide_eq_true c3
    have hsz := hv.size
    obtain ⟨k, q1, q2⟩ := hx' vs.size (by exact om288 c1 hsz)
    refine hZ ?_; clear hZ
    have ht : IsTup (s.heap.push { cls := .type "slice", data := .fields #[.int a u, v, .none] }) p vs := (isTup_of hl).keeps hk
    refine tail_any (s := { s with heap := s.heap.push { cls := .type "slice", data := .fields #[.int a u, v, .none] } }) ht.typeIs PySem.F.slot_tuple_getitem.lookup (getItem_tuple_cut (b := b) ht (Heap.IsSliceOf.new ..) q1 q2 c2 (by exact om289 c3 hsz) ?_ (by rw [sizeLine_eq]; exact om287 c1 hsz)) rfl
    have hk2 : ∀ b' ob, s.heap.get? b' = some ob → ((s.heap.push { cls := .type "slice", data := .fields #[.int a u, v, .none] }).push { cls := .type "tuple", data := .seq ((vs.toList.take b).drop a).toArray }).get? b' = some ob := fun b' ob e => Heap.get?_push_of_some _ (hk b' ob e)
    refine hp.2.newAt (tk := s.toks) R hk2 (Heap.get?_none_of_le (by rw [Heap.size_push]; exact Nat.le_succ _)) (isSome_of (Heap.get?_push_size _ rfl)) (.tup (.inr rfl) ⟨_, Heap.get?_push_size _ rfl⟩ (VRs_frz (C := C) (VRs_kept (C := C) (.of_all hk2) ?_)))
    exact (hv.take b).drop a
  | lst l =>
    refine byC fun hZ => ?_
    obtain ⟨p, vs, rfl, hl, hv⟩ := hd
    have hp := PostO.ite hp
    have c1 := small_le hp.1
    have hsz := hv.size
    obtain ⟨k, q1, q2⟩ := hx' vs.size (by exact om288 c1 hsz)
    refine hZ ?_; clear hZ
    have ht : (s.heap.push { cls := .type "slice", data := .fields #[.int a u, v, .none] }).IsList p vs := (isList_of hl).push _
    refine tail_any (s := { s with heap := s.heap.push { cls := .type "slice", data := .fields #[.int a u, v, .none] } }) ht.typeIs slot_list_getitem.lookup (wpAny_getItem_list_slice ht (Heap.IsSliceOf.new ..) (.int a u) q1.part .none (by simp) ?_ (by rw [sizeLine_eq]; exact om287 c1 hsz)) rfl
    rw [PySem.W.kms_pick_eq]
    have e : PySem.W.kms_pick vs.toList (some (a : Int)) o = (vs.toList.take b).drop a := by
      have := cut_eq vs.toList a b k (by rw [Array.length_toList]; exact q2)
      rw [← this]
      unfold PySem.W.kms_pick
      have e1 : PySem.W.kms_lo (some (a : Int)) vs.toList.length = min a vs.toList.length := by
        show (if (a : Int) < 0 then vs.toList.length - (-(a : Int)).toNat else min (a : Int).toNat vs.toList.length) = _
        rw [if_neg (by exact om286)]; rfl
      have e2 : PySem.W.kms_hi o vs.toList.length = k := by
        cases q1 with
        | none => exact Array.length_toList
        | int b' t =>
          show (if (b' : Int) < 0 then vs.toList.length - (-(b' : Int)).toNat else min (b' : Int).toNat vs.toList.length) = _
          rw [if_neg (by exact om286), Array.length_toList]; rfl
      rw [e1, e2]
    rw [e]
    have hk2 : ∀ b' ob, s.heap.get? b' = some ob → ((s.heap.push { cls := .type "slice", data := .fields #[.int a u, v, .none] }).push { cls := .type "list", data := .seq ((vs.toList.take b).drop a).toArray }).get? b' = some ob := fun b' ob e => Heap.get?_push_of_some _ (hk b' ob e)
    refine hp.2.madeAt (tk := s.toks) R hk2 (Heap.get?_none_of_le (by rw [Heap.size_push]; exact Nat.le_succ _)) ⟨_, ⟨_, Heap.get?_push_size _ rfl⟩, VRs_kept (C := C) (.of_all hk2) ?_⟩
    exact (hv.take b).drop a
  | _ => exact hp.elim
end Mine

set_option autoImplicit false
set_option backward.match.sparseCases true
set_option linter.unusedVariables false
namespace Mine
open PySem PyProof.Rows PySem.SeqAt

/-! ## frames -/
noncomputable def isCellK : Option NameKind → Bool
  | some .cell | some .free => true
  | _ => false

structure FR (C : Fix) (nm : NM) (vm : VM) (env : Env) (ρ : List PV) (g : Cfg) (h : Heap) : Prop where
  kind : env.scope.kind = .function
  names : env.scope.names = nm
  glob : env.globals = mainGlobals
  blt : env.builtins = builtinsNs
  inj : ∀ x y i, vm.lookup x = some i → vm.lookup y = some i → x = y
  ns : ∃ m, h.Ns env.locals m ∧ ∀ x i v, vm.lookup x = some i → nm.lookup x = some .local → ρ[i]? = some v → v ≠ .undef → ∃ y, m x = some y ∧ C.VR g h v y
  cl : ∀ x i, vm.lookup x = some i → isCellK (nm.lookup x) = true → ∃ c o, env.cells.lookup x = some c ∧ h.IsCell c o ∧ ∀ v, ρ[i]? = some v → v ≠ .undef → ∃ y, o = some y ∧ C.VR g h v y
  offL : env.locals ∉ g.μ ∧ ¬ g.Φ env.locals
  offC : ∀ x c, env.cells.lookup x = some c → c ∉ g.μ ∧ ¬ g.Φ c
  cliv : ∀ x c, env.cells.lookup x = some c → ∃ o, h.IsCell c o
  apart : ∀ x y c, env.cells.lookup x = some c → env.cells.lookup y = some c → x = y

/-- the frame's own things -/
noncomputable def ownOf (env : Env) : Addr → Prop := fun b => b = env.locals ∨ ∃ x, env.cells.lookup x = some b

variable {C : Fix} {c : Cx} {σ σ' : AH} {g g' : Cfg} {h h' : Heap} {s s' : Shared} {own : Addr → Prop} {A : Around} {d : Nat} {nm : NM} {vm : VM} {env : Env} {ρ : List PV}
  {Q : Value → Shared → Prop} {E : Value → Shared → Prop}

theorem Heap.Ns.live {h : Heap} {a : Addr} {m : Str → Option Value} (x : h.Ns a m) : ∃ o, h.get? a = some o := by
  obtain ⟨o, es, ep, ho, _⟩ := x; exact ⟨o, ho⟩

theorem FR.ext (F : FR C nm vm env ρ g s.heap) (R : C.Rel σ g s.heap) (e : Ext noOwn g s g' s') : FR C nm vm env ρ g' s'.heap where
  kind := F.kind
  names := F.names
  glob := F.glob
  blt := F.blt
  inj := F.inj
  ns := by
    refine byC fun hZ => ?_
    obtain ⟨m, h1, h2⟩ := F.ns
    refine hZ ?_; clear hZ
    refine ⟨m, ?_, fun x i v a1 a2 a3 a4 => ?_⟩
    · obtain ⟨o, es, ep, ho, rest⟩ := h1
      exact ⟨o, es, ep, e.keep _ _ ho (.inl F.offL.1) (fun q => q), rest⟩
    · obtain ⟨y, b1, b2⟩ := h2 x i v a1 a2 a3 a4
      exact ⟨y, b1, VR_ext R e Off.none b2⟩
  cl := fun x i a1 a2 => by
    refine byC fun hZ => ?_
    obtain ⟨cc, o, b1, b2, b3⟩ := F.cl x i a1 a2
    refine hZ ?_; clear hZ
    refine ⟨cc, o, b1, ?_, fun v a3 a4 => ?_⟩
    · obtain ⟨ob, ho, rest⟩ := b2
      exact ⟨ob, e.keep _ _ ho (.inl (F.offC x cc b1).1) (fun q => q), rest⟩
    · obtain ⟨y, c1, c2⟩ := b3 v a3 a4
      exact ⟨y, c1, VR_ext R e Off.none c2⟩
  offL := by
    obtain ⟨m, h1, _⟩ := F.ns
    obtain ⟨o, ho⟩ := Heap.Ns.live h1
    exact ⟨e.notμ ho F.offL.1, e.notΦ ho F.offL.2⟩
  offC := fun x cc b1 => by
    obtain ⟨o, ob, ho, _⟩ := F.cliv x cc b1
    exact ⟨e.notμ ho (F.offC x cc b1).1, e.notΦ ho (F.offC x cc b1).2⟩
  cliv := fun x cc b1 => by
    obtain ⟨o, ob, ho, rest⟩ := F.cliv x cc b1
    exact ⟨o, ob, e.keep _ _ ho (.inl (F.offC x cc b1).1) (fun q => q), rest⟩
  apart := F.apart

/-- the base as a configuration -/
noncomputable def Fix.g0 (C : Fix) : Cfg := ⟨[], fun a => (C.B.get? a).isSome = true, fun _ => False⟩

noncomputable def biWords : List Str := ["len", "sorted", "tuple", "list", "dict", "str", "int", "abs", "range", "min", "max", "sum", "all", "isinstance", "bool", "set"]

/-- what a class lets one do: nothing of its own in the way of attributes -/
structure CI.OK (I : CI) (B : Heap) (atr : Str → Bool) : Prop where
  cls : ClsAt B I.C I.N I.mN
  nset : I.mN "__setattr__" = none
  nget : I.mN "__getattribute__" = none
  natt : I.mN "__getattr__" = none
  quiet : ∀ x, atr x = true → I.mN x = none

structure CxOK (C : Fix) (c : Cx) (d : Nat) : Prop where
  gl : ∀ x v, c.gl x = some v → ∃ y, C.mg x = some y ∧ C.VR C.g0 C.B v y
  fnv : ∀ f args σ, noDot f = true → c.cal f args σ ≠ .bad → ∃ a o fd, C.mg f = some (.ref a) ∧ C.B.get? a = some o ∧ o.data = .func fd
  cal : ∀ f a args xs σ g s A Q E, noDot f = true → C.mg f = some (.ref a) → AOK A d → C.Rel σ g s.heap → C.VRs g s.heap args xs → PostE C noOwn g s (c.cal f args σ) Q E → wpAny (model C.prog C.w) A (call (.ref a) xs) Q E s
  bi : ∀ w ∈ biWords, C.mg w = none
  cls : ∀ k I, C.cls k = some I → I.OK C.B c.atr
  atr : ∀ x, c.atr x = true → typeLookup (.type "object") x = pure none
  mnv : ∀ k I x args σ, C.cls k = some I → c.cal (methK k x) args σ ≠ .bad → ∃ f o fd y, I.mN x = some (.ref f) ∧ C.B.get? f = some o ∧ o.cls = .type "function" ∧ o.data = .func fd ∧ typeLookup (.type "object") x = pure y
  mcl : ∀ k I x f args xs σ g s A Q E, C.cls k = some I → I.mN x = some (.ref f) → AOK A d → C.Rel σ g s.heap → C.VRs g s.heap args xs → PostE C noOwn g s (c.cal (methK k x) args σ) Q E → wpAny (model C.prog C.w) A (call (.ref f) xs) Q E s
  mkl : ∀ k I f args xs σ g s A ys Q E, C.cls k = some I → I.mN "__init__" = some (.ref f) → AOK A d → C.Rel σ g s.heap → C.VRs g s.heap args xs → PostE C noOwn g s (c.cal (methK k "__init__") args σ) Q E → wpAny (model C.prog C.w) (A.under (.builtin "type.__call__" ⟨.ref I.C :: ys, []⟩)) (call (.ref f) xs) Q E s
  new : ∀ k args σ, c.cal (methK k "__init__") args σ ≠ .bad → ∃ I, C.cls k = some I ∧ C.mg k = some (.ref I.C)

theorem VR_base (R : C.Rel σ g h) {v : PV} {y : Value} (hv : C.VR C.g0 C.B v y) : C.VR g h v y :=
  hv.mono (List.nil_prefix) (fun a ha => R.bas a ha) fun a o ha e => R.rel.base a o e

/-! ## results -/
theorem ok_inj {α : Type} {a b : α} {σ σ' : AH} (h : Res.ok a σ = .ok b σ') : a = b ∧ σ = σ' := by cases h; exact ⟨rfl, rfl⟩
theorem bind_inv {α β : Type} {r : Res α} {f : α → AH → Res β} {v : β} {σ' : AH} (h : r.bind f = .ok v σ') : ∃ a σ1, r = .ok a σ1 ∧ f a σ1 = .ok v σ' := by
  cases r with
  | ok a σ1 => exact ⟨a, σ1, rfl, h⟩
  | exc => cases h
  | bad => cases h
theorem PostE.bindE {α : Type} {r : Res α} {f : α → AH → Res PV} (hp : PostE C own g s (r.bind f) Q E) : ∃ v σ1, r = .ok v σ1 ∧ PostE C own g s (f v σ1) Q E := by
  cases r with
  | ok v σ1 => exact ⟨v, σ1, rfl, hp⟩
  | exc => exact hp.elim
  | bad => exact hp.elim

theorem PostE.mk {r : Res PV} {v : PV} (hr : r = .ok v σ') (h : ∀ g' s' x, Ext own g s g' s' → C.Rel σ' g' s'.heap → C.VR g' s'.heap v x → Q x s') : PostE C own g s r Q E := by rw [hr]; exact h

noncomputable def PostT (C : Fix) (own : Addr → Prop) (g : Cfg) (s : Shared) (r : Res PV) (Q : Bool → Shared → Prop) : Prop := match r with
  | .ok v σ' => match truth σ' v with
    | some b => ∀ g' s', Ext own g s g' s' → C.Rel σ' g' s'.heap → Q b s'
    | none => False
  | _ => False
noncomputable def PostL (C : Fix) (own : Addr → Prop) (g : Cfg) (s : Shared) (r : Res (List PV)) (Q : List Value → Shared → Prop) : Prop := match r with
  | .ok vs σ' => ∀ g' s' xs, Ext own g s g' s' → C.Rel σ' g' s'.heap → C.VRs g' s'.heap vs xs → Q xs s'
  | _ => False

theorem PostL.mk {r : Res (List PV)} {v : List PV} {Q : List Value → Shared → Prop} (hr : r = .ok v σ') (h : ∀ g' s' x, Ext own g s g' s' → C.Rel σ' g' s'.heap → C.VRs g' s'.heap v x → Q x s') : PostL C own g s r Q := by rw [hr]; exact h
theorem PostT.mk {r : Res PV} {v : PV} {b : Bool} {Q : Bool → Shared → Prop} (hr : r = .ok v σ') (hb : truth σ' v = some b) (h : ∀ g' s', Ext own g s g' s' → C.Rel σ' g' s'.heap → Q b s') : PostT C own g s r Q := by
  rw [hr]; unfold PostT; simp only [hb]; exact h

noncomputable def SndE (C : Fix) (c : Cx) (d : Nat) (pe : PE) : Prop := ∀ nm vm e env m ρ σ g s A (Q E : Value → Shared → Prop), chkE pe nm vm e = true → FR C nm vm env ρ g s.heap → C.Rel σ g s.heap → AOK A d →
  PostE C noOwn g s (ev c pe m ρ σ) Q E → wpAny (model C.prog C.w) A (eval e env) Q E s
noncomputable def SndT (C : Fix) (c : Cx) (d : Nat) (pe : PE) : Prop := ∀ nm vm e env ρ σ g s A (Q : Bool → Shared → Prop) (E : Value → Shared → Prop), chkE pe nm vm e = true → FR C nm vm env ρ g s.heap → C.Rel σ g s.heap → AOK A d →
  PostT C noOwn g s (ev c pe 0 ρ σ) Q → wpAny (model C.prog C.w) A (isTrue e env (eval e env)) Q E s
noncomputable def SndEs (C : Fix) (c : Cx) (d : Nat) (pes : PEs) : Prop := ∀ nm vm es env m ρ σ g s A pos (Q : List Value → Shared → Prop) (E : Value → Shared → Prop), chkEs pes nm vm es = true → FR C nm vm env ρ g s.heap → C.Rel σ g s.heap → AOK A d →
  PostL C noOwn g s (evs c pes m ρ σ) Q → wpAny (model C.prog C.w) A (spliced (backTo pos (starEach es env))) Q E s

/-! ## what the check tells of the syntax -/
noncomputable def plainE : Expr → Bool
  | .Starred .. | .Slice .. | .Set .. => false
  | _ => true
theorem chk_plain {pe : PE} {e : Expr} (hc : chkE pe nm vm e = true) : plainE e = true := by
  cases e <;> first | rfl | (cases pe <;> (exact absurd (show false = true from hc) Bool.false_ne_true))

theorem starEach_plain {e : Expr} {rest : List Expr} (h : plainE e = true) : starEach (e :: rest) env = (false, eval e env) :: starEach rest env := by
  cases e <;> first | rfl | cases h
theorem chkEs_cons {e : PE} {es : PEs} {l : List Expr} (h : chkEs (.cons e es) nm vm l = true) : ∃ a as, l = a :: as ∧ chkE e nm vm a = true ∧ chkEs es nm vm as = true := by
  cases l with
  | nil => cases h
  | cons a as =>
    have h' : (chkE e nm vm a && chkEs es nm vm as) = true := h
    obtain ⟨h1, h2⟩ := Bool.and_eq_true_iff.mp h'
    exact ⟨a, as, rfl, h1, h2⟩
theorem chkEs_nil {l : List Expr} (h : chkEs .nil nm vm l = true) : l = [] := by
  cases l with
  | nil => rfl
  | cons => cases h

theorem sndEs_nil : SndEs C c d .nil := by
  intro nm vm es env m ρ σ g s A pos Q E hc F R hA hp
  rw [chkEs_nil hc]
  exact Calls.spliced_nil (hp g s [] (Ext.refl g s) R .nil)
theorem sndEs_cons {e : PE} {es : PEs} (h1 : SndE C c d e) (h2 : SndEs C c d es) : SndEs C c d (.cons e es) := by
  intro nm vm l env m ρ σ g s A pos Q E hc F R hA hp
  refine byC fun hZ => ?_
  obtain ⟨a, as, rfl, c1, c2⟩ := chkEs_cons hc
  refine hZ ?_; clear hZ
  have e1 : backTo pos (starEach (a :: as) env) = (false, eval a env) :: backTo pos (starEach as env) := by rw [starEach_plain (chk_plain c1)]; rfl
  rw [e1]
  simp only [evs] at hp
  cases hr : ev c e m ρ σ with
  | exc => rw [hr] at hp; exact hp.elim
  | bad => rw [hr] at hp; exact hp.elim
  | ok v σ1 =>
    rw [hr] at hp
    simp only [Res.bind] at hp
    cases hr2 : evs c es m ρ σ1 with
    | exc => rw [hr2] at hp; exact hp.elim
    | bad => rw [hr2] at hp; exact hp.elim
    | ok vs σ2 =>
      rw [hr2] at hp
      refine Calls.spliced_cons (h1 nm vm a env m ρ σ g s A _ _ c1 F R hA (PostE.mk hr fun g1 s1 x x1 R1 v1 => ?_))
      refine h2 nm vm as env m ρ σ1 g1 s1 A pos _ _ c2 (F.ext R x1) R1 hA (PostL.mk hr2 fun g2 s2 xs x2 R2 v2 => ?_)
      exact hp g2 s2 (x :: xs) (x1.trans x2) R2 (.cons (VR_ext R1 x2 Off.none v1) v2)

/-! ## one by one -/
theorem sndE_const (k : Const) : SndE C c d (.const k) := by
  intro nm vm e env m ρ σ g s A Q E hc F R hA hp
  refine byC fun hZ => ?_
  obtain ⟨k', a, b, rfl⟩ := fmConst hc
  have hc' : (okConst k && decide (k = k')) = true := hc
  obtain ⟨h1, h2⟩ := Bool.and_eq_true_iff.mp hc'
  refine hZ ?_; clear hZ
  have h2 := of_decide_eq_true h2
  subst h2
  rw [e_const] at hp
  cases k with
  | none => exact fun _ _ _ => hp g s _ (Ext.refl g s) R .none
  | bool b => exact fun _ _ _ => hp g s _ (Ext.refl g s) R (.bool b)
  | int i => exact wpAny_Constant_int (hp g _ _ (Ext.refl g s).toks R (.int i _))
  | str x => exact Calls.Constant_str (hp g _ _ (Ext.refl g s).toks R (.str x _))
  | _ => cases h1

theorem plainName_debug {x : Str} (h : plainName x = true) : (x == ("__debug__" : Str)) = false := by
  have := (Bool.and_eq_true_iff.mp (show (_ && _) = true from h)).1
  simpa using this

theorem plainName_cd {x : Str} (h : plainName x = true) : (x == ("__classdict__" : Str)) = false := by
  have := (Bool.and_eq_true_iff.mp (show (_ && _) = true from h)).2
  simpa using this

theorem sndE_loc (i : Nat) : SndE C c d (.loc i) := by
  intro nm vm e env m ρ σ g s A Q E hc F R hA hp
  refine byC fun hZ => ?_
  obtain ⟨x, pos, rfl⟩ := fmName hc
  have hc' : (vm.lookup x == some i && isVar (nm.lookup x) && plainName x) = true := hc
  obtain ⟨h12, h3⟩ := Bool.and_eq_true_iff.mp hc'
  obtain ⟨h1, h2⟩ := Bool.and_eq_true_iff.mp h12
  refine hZ ?_; clear hZ
  have h1 : vm.lookup x = some i := by simpa using h1
  rw [e_loc] at hp
  cases hv : ρ[i]? with
  | none => rw [hv] at hp; exact hp.elim
  | some v =>
    rw [hv] at hp
    have hu : v ≠ .undef := by rintro rfl; exact hp.elim
    have hp' : PostE C noOwn g s (.ok v σ) Q E := by cases v <;> first | exact hp | exact absurd rfl hu
    have hkind : env.kindOf x = nm.lookup x := by rw [← F.names]; rfl
    refine wpAny_Name ?_ (plainName_debug h3)
    cases hk : nm.lookup x with
    | none => rw [hk] at h2; cases h2
    | some k =>
      rw [hk] at h2 hkind
      cases k with
      | «local» =>
        refine byC fun hZ => ?_
        obtain ⟨m', n1, n2⟩ := F.ns
        obtain ⟨y, b1, b2⟩ := n2 x i v h1 hk hv hu
        refine hZ ?_; clear hZ
        exact wpAny_loadName_local F.kind hkind n1 b1 (hp' g s y (Ext.refl g s) R b2)
      | cell =>
        obtain ⟨cc, o, b1, b2, b3⟩ := F.cl x i h1 (by rw [hk]; rfl)
        obtain ⟨y, rfl, b4⟩ := b3 v hv hu
        exact wpAny_loadName_cell F.kind hkind b1 b2 (hp' g s y (Ext.refl g s) R b4)
      | free =>
        obtain ⟨cc, o, b1, b2, b3⟩ := F.cl x i h1 (by rw [hk]; rfl)
        obtain ⟨y, rfl, b4⟩ := b3 v hv hu
        exact wpAny_loadName_free F.kind hkind b1 b2 (hp' g s y (Ext.refl g s) R b4) (plainName_cd h3)
      | _ => cases h2

theorem glob_chk {y : Str} {e : Expr} (hc : chkE (.glob y) nm vm e = true) : ∃ p, e = .Name y p ∧ isGlob (nm.lookup y) = true ∧ plainName y = true := by
  refine byC fun hZ => ?_
  obtain ⟨x, p, rfl⟩ := fmName hc
  have hc' : (x == y && isGlob (nm.lookup x) && plainName x) = true := hc
  obtain ⟨h12, h3⟩ := Bool.and_eq_true_iff.mp hc'
  obtain ⟨h1, h2⟩ := Bool.and_eq_true_iff.mp h12
  refine hZ ?_; clear hZ
  have h1 : x = y := by simpa using h1
  subst h1
  exact ⟨p, rfl, h2, h3⟩
theorem isGlob_kind {x : Str} (F : FR C nm vm env ρ g h) (hg : isGlob (nm.lookup x) = true) : env.kindOf x = some .globalImplicit := by
  have hkind : env.kindOf x = nm.lookup x := by rw [← F.names]; rfl
  rw [hkind]
  cases hk : nm.lookup x with
  | none => rw [hk] at hg; cases hg
  | some k => rw [hk] at hg; cases k <;> first | rfl | cases hg

theorem globNs (K : C.OK) (R : C.Rel σ g s.heap) (F : FR C nm vm env ρ g s.heap) : s.heap.Ns env.globals C.mg := F.glob ▸ K.g.keeps R.rel.base
theorem bltNs (K : C.OK) (R : C.Rel σ g s.heap) (F : FR C nm vm env ρ g s.heap) : s.heap.Ns env.builtins C.mb := F.blt ▸ K.b.keeps R.rel.base

theorem sndE_bin (K : C.OK) {op : Operator} {a b : PE} (ha : SndE C c d a) (hb : SndE C c d b) : SndE C c d (.bin op a b) := by
  intro nm vm e env m ρ σ g s A Q E hc F R hA hp
  refine byC fun hZ => ?_
  obtain ⟨l, op', r, pos, rfl⟩ := fmBin hc
  have hc' : (decide (op = op') && chkE a nm vm l && chkE b nm vm r) = true := hc
  obtain ⟨h12, h3⟩ := Bool.and_eq_true_iff.mp hc'
  obtain ⟨h1, h2⟩ := Bool.and_eq_true_iff.mp h12
  refine hZ ?_; clear hZ
  have h1 := of_decide_eq_true h1
  subst h1
  refine byC fun hZ => ?_
  obtain ⟨x, σ1, r1, hp⟩ := hp.bindE
  obtain ⟨y, σ2, r2, hp⟩ := hp.bindE
  refine hZ ?_; clear hZ
  refine wpAny_BinOp (ha nm vm l env 0 ρ σ g s A _ _ h2 F R hA (PostE.mk r1 fun g1 s1 vx e1 R1 v1 => ?_))
  refine hb nm vm r env 0 ρ σ1 g1 s1 A _ _ h3 (F.ext R e1) R1 hA (PostE.mk r2 fun g2 s2 vy e2 R2 v2 => ?_)
  exact binop_sound K hA R2 (VR_ext R1 e2 Off.none v1) v2 (fin_sound (hp.shift (e1.trans e2)))

theorem okV_elim {o : Option PV} (hp : PostE C own g s (okV o σ) Q E) : ∃ v, o = some v ∧ PostE C own g s (.ok v σ) Q E := by
  cases o with
  | none => exact hp.elim
  | some v => exact ⟨v, rfl, hp⟩
theorem sndE_glob (K : C.OK) (X : CxOK C c d) (y : Str) : SndE C c d (.glob y) := by
  intro nm vm e env m ρ σ g s A Q E hc F R hA hp
  refine byC fun hZ => ?_
  obtain ⟨p, rfl, h2, h3⟩ := glob_chk hc
  obtain ⟨v, hv, hp⟩ := okV_elim hp
  obtain ⟨z, z1, z2⟩ := X.gl y v hv
  refine hZ ?_; clear hZ
  exact Calls.Name_function_global F.kind (isGlob_kind F h2) (Calls.loadGlobal_global (globNs K R F) z1 (hp g s z (Ext.refl g s) R (VR_base R z2))) (plainName_debug h3)

end Mine

set_option autoImplicit false
set_option backward.match.sparseCases true
set_option linter.unusedVariables false
namespace Mine
open PySem PyProof.Rows PySem.SeqAt

variable {C : Fix} {c : Cx} {σ σ' : AH} {g g' : Cfg} {h h' : Heap} {s s' : Shared} {own : Addr → Prop} {A : Around} {d : Nat} {nm : NM} {vm : VM} {env : Env} {ρ : List PV}
  {Q : Value → Shared → Prop} {E : Value → Shared → Prop}

theorem and2 {a b : Bool} (h : (a && b) = true) : a = true ∧ b = true := Bool.and_eq_true_iff.mp h

theorem PostT.okT {r : Res PV} {Q : Bool → Shared → Prop} (hp : PostT C own g s r Q) : ∃ v σ1 b, r = .ok v σ1 ∧ truth σ1 v = some b ∧ ∀ g' s', Ext own g s g' s' → C.Rel σ1 g' s'.heap → Q b s' := by
  cases r with
  | ok v σ1 =>
    unfold PostT at hp
    simp only at hp
    cases ht : truth σ1 v with
    | none => rw [ht] at hp; exact hp.elim
    | some b => rw [ht] at hp; exact ⟨v, σ1, b, rfl, ht, hp⟩
  | exc => exact hp.elim
  | bad => exact hp.elim
theorem PostT.bindT {α : Type} {r : Res α} {f : α → AH → Res PV} {Q : Bool → Shared → Prop} (hp : PostT C own g s (r.bind f) Q) : ∃ v σ1, r = .ok v σ1 ∧ PostT C own g s (f v σ1) Q := by
  cases r with
  | ok v σ1 => exact ⟨v, σ1, rfl, hp⟩
  | exc => exact hp.elim
  | bad => exact hp.elim
theorem PostT.shift {r : Res PV} {Q : Bool → Shared → Prop} (e : Ext own g s g' s') (hp : PostT C own g s r Q) : PostT C own g' s' r Q := by
  refine byC fun hZ => ?_
  obtain ⟨v, σ1, b, h1, h2, h3⟩ := hp.okT
  refine hZ ?_; clear hZ
  exact PostT.mk h1 h2 fun g2 s2 e2 R => h3 g2 s2 (e.trans e2) R
/-- tests whose syntax isTrue does not take apart -/
noncomputable def bareT : Expr → Bool
  | .UnaryOp .Not _ _ | .BoolOp .. | .IfExp .. | .Compare .. => false
  | _ => true
theorem isTrue_bare {e : Expr} {whole : Sem Value} (h : bareT e = true) : isTrue e env whole = (do let v ← whole; standAt e.pos; holding [v] (truthy v)) := by
  cases e <;> first | rfl | cases h | skip
  rename_i op x pos
  cases op <;> first | rfl | cases h
theorem sndT_bare {pe : PE} (hE : SndE C c d pe) (hb : ∀ nm vm e, chkE pe nm vm e = true → bareT e = true) : SndT C c d pe := by
  intro nm vm e env ρ σ g s A Q E hc F R hA hp
  refine byC fun hZ => ?_
  obtain ⟨v, σ1, b, h1, h2, h3⟩ := hp.okT
  refine hZ ?_; clear hZ
  rw [isTrue_bare (hb nm vm e hc)]
  refine wpAny_bind (hE nm vm e env 0 ρ σ g s A _ _ hc F R hA (PostE.mk h1 fun g1 s1 x e1 R1 v1 => wpAny_bind (wpAny_standAt (wpAny_holding ?_))))
  exact truth_sound R1 v1 h2 fun tk => h3 g1 _ e1.toks R1

theorem sndE_not {a : PE} (ha : SndE C c d a) : SndE C c d (.notE a) := by
  intro nm vm e env m ρ σ g s A Q E hc F R hA hp
  refine byC fun hZ => ?_
  obtain ⟨op, x, pos, rfl⟩ := fmUn hc
  refine hZ ?_; clear hZ
  cases op <;> try (exact absurd (show false = true from hc) Bool.false_ne_true)
  have hc' : chkE a nm vm x = true := hc
  refine byC fun hZ => ?_
  obtain ⟨v, σ1, r1, hp⟩ := hp.bindE
  refine hZ ?_; clear hZ
  refine wpAny_UnaryOp (ha nm vm x env 0 ρ σ g s A _ _ hc' F R hA (PostE.mk r1 fun g1 s1 vx e1 R1 v1 => ?_))
  cases ht : truth σ1 v with
  | none => rw [ht] at hp; exact hp.elim
  | some b =>
    rw [ht] at hp
    unfold unaryOp
    refine wpAny_holding ?_
    show wpAny _ _ (truthy vx >>= fun b => pure (Value.bool (!b))) _ _ _
    exact wpAny_bind (truth_sound R1 v1 ht fun tk => wpAny_pure (hp g1 _ _ e1.toks R1 (.bool _)))
theorem sndT_not {a : PE} (ha : SndT C c d a) : SndT C c d (.notE a) := by
  intro nm vm e env ρ σ g s A Q E hc F R hA hp
  refine byC fun hZ => ?_
  obtain ⟨op, x, pos, rfl⟩ := fmUn hc
  refine hZ ?_; clear hZ
  cases op <;> try (exact absurd (show false = true from hc) Bool.false_ne_true)
  have hc' : chkE a nm vm x = true := hc
  refine byC fun hZ => ?_
  obtain ⟨v, σ1, r1, hp⟩ := hp.bindT
  refine hZ ?_; clear hZ
  cases ht : truth σ1 v with
  | none => rw [ht] at hp; exact hp.elim
  | some b =>
    rw [ht] at hp
    exact wpAny_isTrue_Not (ha nm vm x env ρ σ g s A _ _ hc' F R hA (PostT.mk r1 ht fun g1 s1 e1 R1 => hp g1 s1 e1 R1))

theorem sndE_neg {a : PE} (ha : SndE C c d a) : SndE C c d (.neg a) := by
  intro nm vm e env m ρ σ g s A Q E hc F R hA hp
  refine byC fun hZ => ?_
  obtain ⟨op, x, pos, rfl⟩ := fmUn hc
  refine hZ ?_; clear hZ
  cases op <;> try (exact absurd (show false = true from hc) Bool.false_ne_true)
  have hc' : chkE a nm vm x = true := hc
  refine byC fun hZ => ?_
  obtain ⟨v, σ1, r1, hp⟩ := hp.bindE
  refine hZ ?_; clear hZ
  refine wpAny_UnaryOp (ha nm vm x env 0 ρ σ g s A _ _ hc' F R hA (PostE.mk r1 fun g1 s1 vx e1 R1 v1 => ?_))
  cases v1 <;> first | exact hp.elim | skip
  exact PyProof.Rows.neg_int (hp g1 _ _ e1.toks R1 (.int ..))

theorem plain_marks {op : CmpOp} {e : Expr} (h : plainE e = true) : behindInMarks op e = false := by
  cases e <;> first | rfl | cases h

theorem cmp_chk {op : CmpOp} {a b : PE} {e : Expr} (hc : chkE (.cmp op a b) nm vm e = true) : ∃ l r pos, e = .Compare l [op] [r] pos ∧ chkE a nm vm l = true ∧ chkE b nm vm r = true := by
  refine byC fun hZ => ?_
  obtain ⟨l, ops, rs, pos, rfl⟩ := fmCmp hc
  refine hZ ?_; clear hZ
  rcases ops with _ | ⟨o1, _ | ⟨o2, os⟩⟩ <;> rcases rs with _ | ⟨r1, _ | ⟨r2, rs⟩⟩ <;> try (exact absurd (show false = true from hc) Bool.false_ne_true)
  refine byC fun hZ => ?_
  obtain ⟨h12, h3⟩ := and2 (show (decide (op = o1) && chkE a nm vm l && chkE b nm vm r1) = true from hc)
  obtain ⟨h1, h2⟩ := and2 h12
  refine hZ ?_; clear hZ
  have h1 := of_decide_eq_true h1
  subst h1
  exact ⟨l, r1, pos, rfl, h2, h3⟩
theorem sndE_cmp {op : CmpOp} {a b : PE} (ha : SndE C c d a) (hb : SndE C c d b) : SndE C c d (.cmp op a b) := by
  intro nm vm e env m ρ σ g s A Q E hc F R hA hp
  refine byC fun hZ => ?_
  obtain ⟨l, r, pos, rfl, h2, h3⟩ := cmp_chk hc
  obtain ⟨x, σ1, r1, hp⟩ := hp.bindE
  obtain ⟨y, σ2, r2, hp⟩ := hp.bindE
  refine hZ ?_; clear hZ
  refine wpAny_Compare1 (ha nm vm l env 0 ρ σ g s A _ _ h2 F R hA (PostE.mk r1 fun g1 s1 vx e1 R1 v1 => ?_)) (plain_marks (chk_plain h3))
  refine hb nm vm r env 0 ρ σ1 g1 s1 A _ _ h3 (F.ext R e1) R1 hA (PostE.mk r2 fun g2 s2 vy e2 R2 v2 => ?_)
  cases hq : cmpP σ2 op x y with
  | none => rw [hq] at hp; exact hp.elim
  | some q =>
    rw [hq] at hp
    exact cmpP_sound hA R2 (VR_ext R1 e2 Off.none v1) v2 hq fun tk => hp g2 _ _ (e1.trans e2).toks R2 (.bool _)
theorem sndT_cmp {op : CmpOp} {a b : PE} (ha : SndE C c d a) (hb : SndE C c d b) : SndT C c d (.cmp op a b) := by
  intro nm vm e env ρ σ g s A Q E hc F R hA hp
  refine byC fun hZ => ?_
  obtain ⟨l, r, pos, rfl, h2, h3⟩ := cmp_chk hc
  obtain ⟨x, σ1, r1, hp⟩ := hp.bindT
  obtain ⟨y, σ2, r2, hp⟩ := hp.bindT
  refine hZ ?_; clear hZ
  refine wpAny_isTrue_Compare1 (ha nm vm l env 0 ρ σ g s A _ _ h2 F R hA (PostE.mk r1 fun g1 s1 vx e1 R1 v1 => ?_)) (plain_marks (chk_plain h3))
  refine hb nm vm r env 0 ρ σ1 g1 s1 A _ _ h3 (F.ext R e1) R1 hA (PostE.mk r2 fun g2 s2 vy e2 R2 v2 => ?_)
  cases hq : cmpP σ2 op x y with
  | none => rw [hq] at hp; exact hp.elim
  | some q =>
    rw [hq] at hp
    exact cmpP_sound hA R2 (VR_ext R1 e2 Off.none v1) v2 hq fun tk => wpAny_truthy_bool (hp g2 _ (e1.trans e2).toks R2)

/-! ### and, or -/
noncomputable def SndB (C : Fix) (c : Cx) (d : Nat) (op : BoolOp) (f : PEs → List PV → AH → Res PV) (pes : PEs) : Prop :=
  (∀ nm vm es env ρ σ g s A pos (Q E : Value → Shared → Prop), chkEs pes nm vm es = true → FR C nm vm env ρ g s.heap → C.Rel σ g s.heap → AOK A d →
    PostE C noOwn g s (f pes ρ σ) Q E → wpAny (model C.prog C.w) A (boolOp pos op (evalEach es env)) Q E s) ∧
  (∀ nm vm es env ρ σ g s A (Q : Bool → Shared → Prop) (E : Value → Shared → Prop), chkEs pes nm vm es = true → FR C nm vm env ρ g s.heap → C.Rel σ g s.heap → AOK A d →
    PostT C noOwn g s (f pes ρ σ) Q → wpAny (model C.prog C.w) A (allTrue op es env) Q E s)

theorem sndAnd_nil : SndB C c d .And (evAnd c) .nil := by
  constructor
  · intro nm vm es env ρ σ g s A pos Q E hc F R hA hp; exact (show False from hp).elim
  · intro nm vm es env ρ σ g s A Q E hc F R hA hp; exact (show False from hp).elim
theorem sndOr_nil : SndB C c d .Or (evOr c) .nil := by
  constructor
  · intro nm vm es env ρ σ g s A pos Q E hc F R hA hp; exact (show False from hp).elim
  · intro nm vm es env ρ σ g s A Q E hc F R hA hp; exact (show False from hp).elim

theorem sndAnd_cons {e : PE} {es : PEs} (hE : SndE C c d e) (hT : SndT C c d e) (hr : SndB C c d .And (evAnd c) es) : SndB C c d .And (evAnd c) (.cons e es) := by
  constructor
  · intro nm vm l env ρ σ g s A pos Q E hc F R hA hp
    refine byC fun hZ => ?_
    obtain ⟨a, as, rfl, c1, c2⟩ := chkEs_cons hc
    refine hZ ?_; clear hZ
    cases es with
    | nil =>
      rw [chkEs_nil c2]
      have hp : PostE C noOwn g s (ev c e 0 ρ σ) Q E := hp
      exact hE nm vm a env 0 ρ σ g s A _ _ c1 F R hA hp
    | cons e2 es2 =>
      refine byC fun hZ => ?_
      obtain ⟨a2, as2, rfl, c3, c4⟩ := chkEs_cons c2
      refine hZ ?_; clear hZ
      have hp : PostE C noOwn g s ((ev c e 0 ρ σ).bind fun v σ1 => pickB (truth σ1 v) (evAnd c (.cons e2 es2) ρ σ1) (.ok v σ1)) Q E := hp
      refine byC fun hZ => ?_
      obtain ⟨v, σ1, r1, hp⟩ := hp.bindE
      refine hZ ?_; clear hZ
      show wpAny _ _ (boolOp pos .And (eval a env :: eval a2 env :: evalEach as2 env)) _ _ _
      unfold boolOp
      refine wpAny_bind (hE nm vm a env 0 ρ σ g s A _ _ c1 F R hA (PostE.mk r1 fun g1 s1 x e1 R1 v1 => wpAny_bind (wpAny_standAt (wpAny_bind (wpAny_holding ?_)))))
      cases ht : truth σ1 v with
      | none => rw [ht] at hp; exact hp.elim
      | some b =>
        rw [ht] at hp
        refine truth_sound R1 v1 ht fun tk => ?_
        have e3 : Ext noOwn g s g1 { s1 with toks := tk } := e1.toks
        cases b with
        | false => exact wpAny_pure (hp g1 _ _ e3 R1 v1)
        | true => exact hr.1 nm vm (a2 :: as2) env ρ σ1 g1 { s1 with toks := tk } A pos _ _ c2 (F.ext R e3) R1 hA (hp.shift e3)
  · intro nm vm l env ρ σ g s A Q E hc F R hA hp
    refine byC fun hZ => ?_
    obtain ⟨a, as, rfl, c1, c2⟩ := chkEs_cons hc
    refine hZ ?_; clear hZ
    unfold allTrue
    cases es with
    | nil =>
      rw [chkEs_nil c2]
      have hp : PostT C noOwn g s (ev c e 0 ρ σ) Q := hp
      refine byC fun hZ => ?_
      obtain ⟨v, σ1, b, h1, h2, h3⟩ := hp.okT
      refine hZ ?_; clear hZ
      refine wpAny_bind (hT nm vm a env ρ σ g s A _ _ c1 F R hA (PostT.mk h1 h2 fun g1 s1 e1 R1 => ?_))
      cases b with
      | false => exact wpAny_pure (h3 g1 s1 e1 R1)
      | true => exact wpAny_pure (h3 g1 s1 e1 R1)
    | cons e2 es2 =>
      have hp : PostT C noOwn g s ((ev c e 0 ρ σ).bind fun v σ1 => pickB (truth σ1 v) (evAnd c (.cons e2 es2) ρ σ1) (.ok v σ1)) Q := hp
      refine byC fun hZ => ?_
      obtain ⟨v, σ1, r1, hp⟩ := hp.bindT
      refine hZ ?_; clear hZ
      cases ht : truth σ1 v with
      | none => rw [ht] at hp; exact hp.elim
      | some b =>
        rw [ht] at hp
        refine wpAny_bind (hT nm vm a env ρ σ g s A _ _ c1 F R hA (PostT.mk r1 ht fun g1 s1 e1 R1 => ?_))
        cases b with
        | false =>
          refine byC fun hZ => ?_
          obtain ⟨v', σ', b', q1, q2, q3⟩ := hp.okT
          refine hZ ?_; clear hZ
          have q1 : Res.ok v σ1 = .ok v' σ' := q1
          cases q1
          rw [ht] at q2; cases q2
          exact wpAny_pure (q3 g1 s1 e1 R1)
        | true => exact hr.2 nm vm as env ρ σ1 g1 s1 A _ _ c2 (F.ext R e1) R1 hA (hp.shift e1)
theorem sndOr_cons {e : PE} {es : PEs} (hE : SndE C c d e) (hT : SndT C c d e) (hr : SndB C c d .Or (evOr c) es) : SndB C c d .Or (evOr c) (.cons e es) := by
  constructor
  · intro nm vm l env ρ σ g s A pos Q E hc F R hA hp
    refine byC fun hZ => ?_
    obtain ⟨a, as, rfl, c1, c2⟩ := chkEs_cons hc
    refine hZ ?_; clear hZ
    cases es with
    | nil =>
      rw [chkEs_nil c2]
      have hp : PostE C noOwn g s (ev c e 0 ρ σ) Q E := hp
      exact hE nm vm a env 0 ρ σ g s A _ _ c1 F R hA hp
    | cons e2 es2 =>
      refine byC fun hZ => ?_
      obtain ⟨a2, as2, rfl, c3, c4⟩ := chkEs_cons c2
      refine hZ ?_; clear hZ
      have hp : PostE C noOwn g s ((ev c e 0 ρ σ).bind fun v σ1 => pickB (truth σ1 v) (.ok v σ1) (evOr c (.cons e2 es2) ρ σ1)) Q E := hp
      refine byC fun hZ => ?_
      obtain ⟨v, σ1, r1, hp⟩ := hp.bindE
      refine hZ ?_; clear hZ
      show wpAny _ _ (boolOp pos .Or (eval a env :: eval a2 env :: evalEach as2 env)) _ _ _
      unfold boolOp
      refine wpAny_bind (hE nm vm a env 0 ρ σ g s A _ _ c1 F R hA (PostE.mk r1 fun g1 s1 x e1 R1 v1 => wpAny_bind (wpAny_standAt (wpAny_bind (wpAny_holding ?_)))))
      cases ht : truth σ1 v with
      | none => rw [ht] at hp; exact hp.elim
      | some b =>
        rw [ht] at hp
        refine truth_sound R1 v1 ht fun tk => ?_
        have e3 : Ext noOwn g s g1 { s1 with toks := tk } := e1.toks
        cases b with
        | true => exact wpAny_pure (hp g1 _ _ e3 R1 v1)
        | false => exact hr.1 nm vm (a2 :: as2) env ρ σ1 g1 { s1 with toks := tk } A pos _ _ c2 (F.ext R e3) R1 hA (hp.shift e3)
  · intro nm vm l env ρ σ g s A Q E hc F R hA hp
    refine byC fun hZ => ?_
    obtain ⟨a, as, rfl, c1, c2⟩ := chkEs_cons hc
    refine hZ ?_; clear hZ
    unfold allTrue
    cases es with
    | nil =>
      rw [chkEs_nil c2]
      have hp : PostT C noOwn g s (ev c e 0 ρ σ) Q := hp
      refine byC fun hZ => ?_
      obtain ⟨v, σ1, b, h1, h2, h3⟩ := hp.okT
      refine hZ ?_; clear hZ
      refine wpAny_bind (hT nm vm a env ρ σ g s A _ _ c1 F R hA (PostT.mk h1 h2 fun g1 s1 e1 R1 => ?_))
      cases b with
      | false => exact wpAny_pure (h3 g1 s1 e1 R1)
      | true => exact wpAny_pure (h3 g1 s1 e1 R1)
    | cons e2 es2 =>
      have hp : PostT C noOwn g s ((ev c e 0 ρ σ).bind fun v σ1 => pickB (truth σ1 v) (.ok v σ1) (evOr c (.cons e2 es2) ρ σ1)) Q := hp
      refine byC fun hZ => ?_
      obtain ⟨v, σ1, r1, hp⟩ := hp.bindT
      refine hZ ?_; clear hZ
      cases ht : truth σ1 v with
      | none => rw [ht] at hp; exact hp.elim
      | some b =>
        rw [ht] at hp
        refine wpAny_bind (hT nm vm a env ρ σ g s A _ _ c1 F R hA (PostT.mk r1 ht fun g1 s1 e1 R1 => ?_))
        cases b with
        | true =>
          refine byC fun hZ => ?_
          obtain ⟨v', σ', b', q1, q2, q3⟩ := hp.okT
          refine hZ ?_; clear hZ
          have q1 : Res.ok v σ1 = .ok v' σ' := q1
          cases q1
          rw [ht] at q2; cases q2
          exact wpAny_pure (q3 g1 s1 e1 R1)
        | false => exact hr.2 nm vm as env ρ σ1 g1 s1 A _ _ c2 (F.ext R e1) R1 hA (hp.shift e1)

theorem sndE_and {es : PEs} (h : SndB C c d .And (evAnd c) es) : SndE C c d (.andE es) := by
  intro nm vm e env m ρ σ g s A Q E hc F R hA hp
  refine byC fun hZ => ?_
  obtain ⟨op, vs, pos, rfl⟩ := fmBool hc
  refine hZ ?_; clear hZ
  cases op <;> try (exact absurd (show false = true from hc) Bool.false_ne_true)
  rw [arm_eval_BoolOp]
  exact h.1 nm vm vs env ρ σ g s A pos _ _ (show chkEs es nm vm vs = true from hc) F R hA hp
theorem sndT_and {es : PEs} (h : SndB C c d .And (evAnd c) es) : SndT C c d (.andE es) := by
  intro nm vm e env ρ σ g s A Q E hc F R hA hp
  refine byC fun hZ => ?_
  obtain ⟨op, vs, pos, rfl⟩ := fmBool hc
  refine hZ ?_; clear hZ
  cases op <;> try (exact absurd (show false = true from hc) Bool.false_ne_true)
  rw [arm_isTrue_BoolOp]
  exact h.2 nm vm vs env ρ σ g s A _ _ (show chkEs es nm vm vs = true from hc) F R hA hp
theorem sndE_or {es : PEs} (h : SndB C c d .Or (evOr c) es) : SndE C c d (.orE es) := by
  intro nm vm e env m ρ σ g s A Q E hc F R hA hp
  refine byC fun hZ => ?_
  obtain ⟨op, vs, pos, rfl⟩ := fmBool hc
  refine hZ ?_; clear hZ
  cases op <;> try (exact absurd (show false = true from hc) Bool.false_ne_true)
  rw [arm_eval_BoolOp]
  exact h.1 nm vm vs env ρ σ g s A pos _ _ (show chkEs es nm vm vs = true from hc) F R hA hp
theorem sndT_or {es : PEs} (h : SndB C c d .Or (evOr c) es) : SndT C c d (.orE es) := by
  intro nm vm e env ρ σ g s A Q E hc F R hA hp
  refine byC fun hZ => ?_
  obtain ⟨op, vs, pos, rfl⟩ := fmBool hc
  refine hZ ?_; clear hZ
  cases op <;> try (exact absurd (show false = true from hc) Bool.false_ne_true)
  rw [arm_isTrue_BoolOp]
  exact h.2 nm vm vs env ρ σ g s A _ _ (show chkEs es nm vm vs = true from hc) F R hA hp
end Mine

set_option autoImplicit false
set_option backward.match.sparseCases true
set_option linter.unusedVariables false
namespace Mine
open PySem PyProof.Rows PySem.SeqAt

variable {C : Fix} {c : Cx} {σ σ' : AH} {g g' : Cfg} {h h' : Heap} {s s' : Shared} {own : Addr → Prop} {A : Around} {d : Nat} {nm : NM} {vm : VM} {env : Env} {ρ : List PV}
  {Q : Value → Shared → Prop} {E : Value → Shared → Prop}

theorem evs_len : ∀ (pes : PEs) (l : List Expr) (m : Nat) (ρ : List PV) (σ σ' : AH) (vs : List PV), chkEs pes nm vm l = true → evs c pes m ρ σ = .ok vs σ' → vs.length = l.length
  | .nil, l, m, ρ, σ, σ', vs, hc, he => by
    rw [chkEs_nil hc, ← (ok_inj he).1]; rfl
  | .cons e es, l, m, ρ, σ, σ', vs, hc, he => by
    refine byC fun hZ => ?_
    obtain ⟨a, as, rfl, c1, c2⟩ := chkEs_cons hc
    obtain ⟨v, σ1, hr, he⟩ := bind_inv he
    obtain ⟨ws, σ2, hr2, he⟩ := bind_inv he
    refine hZ ?_; clear hZ
    rw [← (ok_inj he).1]
    exact congrArg Nat.succ (evs_len es as m ρ σ1 σ2 ws c2 hr2)

theorem sndE_tup {es : PEs} (h : SndEs C c d es) : SndE C c d (.tup es) := by
  intro nm vm e env m ρ σ g s A Q E hc F R hA hp
  refine byC fun hZ => ?_
  obtain ⟨elts, ctx, pos, rfl⟩ := fmTup hc
  obtain ⟨h1, h2⟩ := and2 (show (decide (elts.length < 1000) && chkEs es nm vm elts) = true from hc)
  have h1 := of_decide_eq_true h1
  obtain ⟨vs, σ1, r1, hp⟩ := hp.bindE
  refine hZ ?_; clear hZ
  show wpAny _ _ (standAt pos >>= fun _ => spliced (backTo pos (starEach elts env)) >>= newTuple) _ _ _
  refine wpAny_bind (wpAny_standAt (wpAny_bind (h nm vm elts env 0 ρ σ g s A pos _ _ h2 F R hA (PostL.mk r1 fun g1 s1 xs e1 R1 v1 => ?_))))
  have hl := evs_len es elts 0 ρ σ σ1 vs h2 r1
  have hl2 := v1.length
  have hp1 : PostO C σ1 g1 s1 (some (.v (.tup vs))) Q := fun g2 s2 x e2 R2 v2 => hp g2 s2 x (e1.trans e2) R2 v2
  exact wpAny_newTuple (hp1.push (tk := s1.toks) R1 (tupObj_vr (n := 0) (by simpa using v1))) (by rw [sizeLine_eq]; exact om302 h1 hl hl2)

theorem sndE_lst {es : PEs} (h : SndEs C c d es) : SndE C c d (.lst es) := by
  intro nm vm e env m ρ σ g s A Q E hc F R hA hp
  refine byC fun hZ => ?_
  obtain ⟨elts, pos, rfl⟩ := fmLst hc
  obtain ⟨h1, h2⟩ := and2 (show (decide (elts.length < 1000) && chkEs es nm vm elts) = true from hc)
  have h1 := of_decide_eq_true h1
  obtain ⟨vs, σ1, r1, hp⟩ := hp.bindE
  refine hZ ?_; clear hZ
  show wpAny _ _ (standAt pos >>= fun _ => spliced (backTo pos (starEach elts env)) >>= newList) _ _ _
  refine wpAny_bind (wpAny_standAt (wpAny_bind (h nm vm elts env _ ρ σ g s A pos _ _ h2 F R hA (PostL.mk r1 fun g1 s1 xs e1 R1 v1 => ?_))))
  have hl := evs_len es elts _ ρ σ σ1 vs h2 r1
  have hl2 := v1.length
  have hp1 : PostO C σ1 g1 s1 (some (.f (.list vs))) Q := fin_sound (m := m) (E := E) (hp.shift e1)
  exact wpAny_newList (hp1.made (tk := s1.toks) R1 (listObj_frs R1 (n := 0) (by simpa using v1))) (by rw [sizeLine_eq]; exact om302 h1 hl hl2)

theorem sndE_edict : SndE C c d .edict := by
  intro nm vm e env m ρ σ g s A Q E hc F R hA hp
  obtain ⟨pos, rfl⟩ := fmEDict hc
  show wpAny _ _ (standAt pos >>= fun _ => dictDisplay []) _ _ _
  refine wpAny_bind (wpAny_standAt ?_)
  have hp1 : PostO C σ g s (some (.f (.dict []))) Q := fin_sound (m := m) (E := E) hp
  show wpAny _ _ (newDict) _ _ _
  refine wpAny_newObj_type (hp1.made (tk := s.toks) R ⟨[], Heap.DictOf.new s.heap, .nil⟩)

theorem sndE_idx {a i : PE} (ha : SndE C c d a) (hi : SndE C c d i) : SndE C c d (.idx a i) := by
  intro nm vm e env m ρ σ g s A Q E hc F R hA hp
  refine byC fun hZ => ?_
  obtain ⟨v, ix, pos, rfl⟩ := fmSub hc
  obtain ⟨h1, h2⟩ := and2 (show (chkE a nm vm v && chkE i nm vm ix) = true from hc)
  obtain ⟨x, σ1, r1, hp⟩ := hp.bindE
  obtain ⟨y, σ2, r2, hp⟩ := hp.bindE
  refine hZ ?_; clear hZ
  refine Subscript_ (ha nm vm v env 0 ρ σ g s A _ _ h1 F R hA (PostE.mk r1 fun g1 s1 vx e1 R1 v1 => ?_))
  refine hi nm vm ix env 0 ρ σ1 g1 s1 A _ _ h2 (F.ext R e1) R1 hA (PostE.mk r2 fun g2 s2 vy e2 R2 v2 => ?_)
  refine getAt_tail R2 (VR_ext R1 e2 Off.none v1) v2 ?_ (fin_sound (m := 0) (E := E) (hp.shift (e1.trans e2)))
  have := chk_plain h2
  cases ix <;> first | rfl | cases this

/-! ### calls -/
theorem evalArgs_any {M : Model} {f : Value} {es : List Expr} {pes : PEs} {Q : Args → Shared → Prop} {pos : Pos} (hc : chkEs pes nm vm es = true)
    (h : wpAny M A (spliced (backTo pos (starEach es env))) (fun vs s' => Q ⟨vs, []⟩ s') E s) : wpAny M A (evalArgs f true (backTo pos (starEach es env)) []) Q E s := by
  cases pes with
  | nil =>
    rw [chkEs_nil hc] at h ⊢
    unfold evalArgs
    refine wpAny_bind (wpAny_mono h (fun vs s' h' => wpAny_bind (wpAny_pure ?_)) fun _ _ x => x)
    refine wpAny_holding ?_
    exact wpAny_bind (wpAny_pure (wpAny_bind (wpAny_pure (wpAny_pure h'))))
  | cons e es' =>
    refine byC fun hZ => ?_
    obtain ⟨a, as, rfl, c1, c2⟩ := chkEs_cons hc
    refine hZ ?_; clear hZ
    have e1 : backTo pos (starEach (a :: as) env) = (false, eval a env) :: backTo pos (starEach as env) := by rw [starEach_plain (chk_plain c1)]; rfl
    rw [e1] at h ⊢
    exact Calls.evalArgs_plain h
theorem plain_args : ∀ (pes : PEs) (es : List Expr) {pos : Pos}, chkEs pes nm vm es = true → (backTo pos (starEach es env)).any (·.1) = false
  | .nil, es, pos, hc => by rw [chkEs_nil hc]; rfl
  | .cons e es', es, pos, hc => by
    refine byC fun hZ => ?_
    obtain ⟨a, as, rfl, c1, c2⟩ := chkEs_cons hc
    refine hZ ?_; clear hZ
    have e1 : backTo pos (starEach (a :: as) env) = (false, eval a env) :: backTo pos (starEach as env) := by rw [starEach_plain (chk_plain c1)]; rfl
    rw [e1, List.any_cons, plain_args es' as c2]; rfl

theorem call_chk {f : Str} {args : PEs} {e : Expr} (hc : chkE (.call f args) nm vm e = true) : ∃ p as pos, e = .Call (.Name f p) as [] pos ∧ isGlob (nm.lookup f) = true ∧ plainName f = true ∧ noDot f = true ∧ chkEs args nm vm as = true := by
  refine byC fun hZ => ?_
  obtain ⟨fe, as, pos, rfl⟩ := fmCall hc
  obtain ⟨x, p, rfl⟩ := fmName hc
  obtain ⟨h1230, h4⟩ := and2 (show (x == f && isGlob (nm.lookup x) && plainName x && noDot f && chkEs args nm vm as) = true from hc)
  obtain ⟨h123, h0⟩ := and2 h1230
  obtain ⟨h12, h3⟩ := and2 h123
  obtain ⟨h1, h2⟩ := and2 h12
  refine hZ ?_; clear hZ
  have h1 : x = f := by simpa using h1
  subst h1
  exact ⟨p, as, pos, rfl, h2, h3, h0, h4⟩

theorem eval_Call_Name (x : Str) (p : Pos) (as : List Expr) (pos : Pos) : eval (.Call (.Name x p) as [] pos) env = (do callWith pos (← eval (.Name x p) env) [] (backTo pos (starEach as env)) []) := rfl

theorem sndE_call (K : C.OK) (X : CxOK C c d) {f : Str} {args : PEs} (h : SndEs C c d args) : SndE C c d (.call f args) := by
  intro nm vm e env m ρ σ g s A Q E hc F R hA hp
  refine byC fun hZ => ?_
  obtain ⟨p, as, pos, rfl, h2, h3, h0, h4⟩ := call_chk hc
  obtain ⟨vs, σ1, r1, hp⟩ := hp.bindE
  have hnb : c.cal f vs σ1 ≠ .bad := fun q => by rw [q] at hp; exact hp
  obtain ⟨a, o, fd, z1, z2, z3⟩ := X.fnv f vs σ1 h0 hnb
  refine hZ ?_; clear hZ
  rw [eval_Call_Name]
  refine wpAny_bind (Calls.Name_function_global F.kind (isGlob_kind F h2) (Calls.loadGlobal_global (globNs K R F) z1 ?_) (plainName_debug h3))
  refine Calls.callWith_function (o := o) (fd := fd) (evalArgs_any h4 (h nm vm as env 0 ρ σ g s A pos _ _ h4 F R hA (PostL.mk r1 fun g1 s1 xs e1 R1 v1 => ⟨⟨R1.rel.base a o z2, z3⟩, ?_⟩)))
  exact X.cal f a vs xs σ1 g1 s1 A Q E h0 z1 hA R1 v1 (hp.shift e1)


theorem boot_bi (K : C.OK) (b : BI) : C.mb b.word = some b.callee := by
  cases b
  case isinst t =>
    show C.mb "isinstance" = some (.builtin "isinstance")
    rw [K.builtins _ (by decide)]; decide +kernel
  all_goals (rw [K.builtins _ (by decide)]; decide +kernel)
theorem boot_ty (K : C.OK) (t : Ty) : C.mb t.word = some t.val := by
  cases t <;> (rw [K.builtins _ (by decide)]; decide +kernel)
theorem bi_words (b : BI) : b.word ∈ biWords := by
  cases b
  case isinst t => show ("isinstance" : Str) ∈ biWords; decide
  all_goals decide
theorem ty_words (t : Ty) : t.word ∈ biWords := by cases t <;> decide

theorem name_bi (K : C.OK) (X : CxOK C c d) (F : FR C nm vm env ρ g s.heap) (R : C.Rel σ g s.heap) {x : Str} {p : Pos} {v : Value} (h2 : isGlob (nm.lookup x) = true) (h3 : plainName x = true) (hw : x ∈ biWords) (hv : C.mb x = some v) (h : Q v s) :
    wpAny (model C.prog C.w) A (eval (.Name x p) env) Q E s :=
  Calls.Name_function_global F.kind (isGlob_kind F h2) (Calls.loadGlobal_builtin (globNs K R F) (X.bi x hw) (bltNs K R F) hv h) (plainName_debug h3)

/-- the other built-ins -/
noncomputable def BI.plain : BI → Bool
  | .isinst _ | .sortedSet => false
  | _ => true

theorem nameOf_eq {e : Expr} {x : Str} (h : nameOf e = some x) : ∃ p, e = .Name x p := by
  cases e <;> first | exact ⟨_, congrArg (Expr.Name · _) (Option.some.inj h)⟩ | cases h
theorem callOf_eq {e : Expr} {q : Expr × List Expr × Bool} (h : callOf e = some q) : ∃ kws pos, e = .Call q.1 q.2.1 kws pos ∧ kws.isEmpty = q.2.2 := by
  cases e <;> first | (cases h; exact ⟨_, _, rfl, rfl⟩) | cases h
theorem firstTwo_eq {l : List Expr} {p : Expr × Expr} (h : firstTwo l = some p) : l = [p.1, p.2] := by
  rcases l with _ | ⟨a, _ | ⟨b, _ | ⟨c, l⟩⟩⟩ <;> cases h
  rfl
theorem onlyOne_eq {l : List Expr} {e : Expr} (h : onlyOne l = some e) : l = [e] := by
  rcases l with _ | ⟨a, _ | ⟨b, l⟩⟩ <;> cases h
  rfl
theorem if_some {α : Type} {p : Prop} [Decidable p] {a b : α} (h : (if p then some a else none) = some b) : p ∧ a = b := by
  by_cases q : p
  · rw [if_pos q] at h; exact ⟨q, Option.some.inj h⟩
  · rw [if_neg q] at h; cases h
theorem isinst_args {t : Ty} {as l : List Expr} (h : biArgs nm (.isinst t) as = some l) : ∃ e y p', as = [e, .Name y p'] ∧ y = t.word ∧ isGlob (nm.lookup y) = true ∧ plainName y = true ∧ l = [e] := by
  refine byC fun hZ => ?_
  obtain ⟨p, h1, h⟩ := Option.bind_eq_some_iff.mp (show (firstTwo as).bind _ = some l from h)
  obtain ⟨y, h2, h⟩ := Option.bind_eq_some_iff.mp h
  obtain ⟨h3, h⟩ := if_some h
  obtain ⟨h4, h5⟩ := and2 h3
  obtain ⟨h6, h7⟩ := and2 h4
  obtain ⟨p', h8⟩ := nameOf_eq h2
  refine hZ ?_; clear hZ
  exact ⟨p.1, y, p', by rw [firstTwo_eq h1, h8], by simpa using h6, h7, h5, h.symm⟩
theorem sset_args {as l : List Expr} (h : biArgs nm .sortedSet as = some l) : ∃ y p' as2 pos2, as = [.Call (.Name y p') as2 [] pos2] ∧ y = "set" ∧ isGlob (nm.lookup y) = true ∧ plainName y = true ∧ l = as2 := by
  refine byC fun hZ => ?_
  obtain ⟨e, h1, h⟩ := Option.bind_eq_some_iff.mp (show (onlyOne as).bind _ = some l from h)
  obtain ⟨q, h2, h⟩ := Option.bind_eq_some_iff.mp h
  obtain ⟨y, h3, h⟩ := Option.bind_eq_some_iff.mp h
  obtain ⟨h4, h⟩ := if_some h
  obtain ⟨h5, h6⟩ := and2 h4
  obtain ⟨h7, h8⟩ := and2 h5
  obtain ⟨h9, h10⟩ := and2 h7
  obtain ⟨p', h11⟩ := nameOf_eq h3
  obtain ⟨kws, pos2, h12, h13⟩ := callOf_eq h2
  refine hZ ?_; clear hZ
  rw [h6] at h13
  have h14 : kws = [] := List.isEmpty_iff.mp h13
  subst h14
  exact ⟨y, p', q.2.1, pos2, by rw [onlyOne_eq h1, h12, h11], by simpa using h9, h10, h8, h.symm⟩
theorem bi_call {b : BI} {args : PEs} {e : Expr} (hc : chkE (.bi b args) nm vm e = true) : ∃ fe as pos, e = .Call fe as [] pos ∧ ∃ x p, fe = .Name x p := by
  refine byC fun hZ => ?_
  obtain ⟨fe, as, pos, rfl⟩ := fmCall hc
  obtain ⟨x, p, rfl⟩ := fmName hc
  refine hZ ?_; clear hZ
  exact ⟨_, as, pos, rfl, x, p, rfl⟩
theorem bi_chk {b : BI} {args : PEs} {e : Expr} (hc : chkE (.bi b args) nm vm e = true) : ∃ x p as pos, e = .Call (.Name x p) as [] pos ∧ isGlob (nm.lookup x) = true ∧ x = b.word ∧ plainName x = true ∧
    ((b.plain = true ∧ chkEs args nm vm as = true) ∨ (∃ t e y p', b = .isinst t ∧ as = [e, .Name y p'] ∧ y = t.word ∧ isGlob (nm.lookup y) = true ∧ plainName y = true ∧ chkEs args nm vm [e] = true) ∨
      ∃ y p' as2 pos2, b = .sortedSet ∧ as = [.Call (.Name y p') as2 [] pos2] ∧ y = "set" ∧ isGlob (nm.lookup y) = true ∧ plainName y = true ∧ chkEs args nm vm as2 = true) := by
  refine byC fun hZ => ?_
  obtain ⟨_, as, pos, rfl, x, p, rfl⟩ := bi_call hc
  obtain ⟨h123, h4⟩ := and2 hc
  obtain ⟨h12, h3⟩ := and2 h123
  obtain ⟨h1, h2⟩ := and2 h12
  refine hZ ?_; clear hZ
  refine ⟨x, p, as, pos, rfl, h1, by simpa using h2, h3, ?_⟩
  cases hl : biArgs nm b as with
  | none => rw [hl] at h4; exact absurd h4 Bool.false_ne_true
  | some l =>
    rw [hl] at h4
    have h4 : chkEs args nm vm l = true := h4
    cases b with
    | isinst t =>
      refine byC fun hZ => ?_
      obtain ⟨e, y, p', q1, q2, q3, q4, rfl⟩ := isinst_args hl
      refine hZ ?_; clear hZ
      exact .inr (.inl ⟨t, e, y, p', rfl, q1, q2, q3, q4, h4⟩)
    | sortedSet =>
      refine byC fun hZ => ?_
      obtain ⟨y, p', as2, pos2, q1, q2, q3, q4, rfl⟩ := sset_args hl
      refine hZ ?_; clear hZ
      exact .inr (.inr ⟨y, p', l, pos2, rfl, q1, q2, q3, q4, h4⟩)
    | _ => cases hl; exact .inl ⟨rfl, h4⟩

theorem sndE_bi (K : C.OK) (X : CxOK C c d) {b : BI} {args : PEs} (h : SndEs C c d args) (hh : ∀ e es, args = .cons e es → SndE C c d e) : SndE C c d (.bi b args) := by
  intro nm vm e env m ρ σ g s A Q E hc F R hA hp
  refine byC fun hZ => ?_
  obtain ⟨x, p, as, pos, rfl, h1, h2, h3, h4⟩ := bi_chk hc
  obtain ⟨vs, σ1, r1, hp⟩ := hp.bindE
  refine hZ ?_; clear hZ
  rw [eval_Call_Name]
  refine wpAny_bind (name_bi K X F R h1 h3 (h2 ▸ bi_words b) (h2 ▸ boot_bi K b) ?_)
  have hp1 : ∀ {g1 s1}, Ext noOwn g s g1 s1 → PostO C σ1 g1 s1 (biP σ1 b vs) Q := fun e1 => fin_sound (m := m) (E := E) (hp.shift e1)
  rcases h4 with ⟨hb1, h4⟩ | ⟨t, e, y, p', rfl, rfl, h5, h6, h7, h8⟩ | ⟨y, p', as2, pos2, rfl, rfl, h5, h6, h7, h8⟩
  · have key : ∀ {g1 s1 xs}, Ext noOwn g s g1 s1 → C.Rel σ1 g1 s1.heap → C.VRs g1 s1.heap vs xs → wpAny (model C.prog C.w) A (call b.callee xs) Q E s1 := fun e1 R1 v1 => by
      have := bi_sound (E := E) K hA R1 v1 (by rintro rfl; cases hb1) (hp1 e1)
      have hm : b.more = [] := by cases b <;> first | rfl | cases hb1
      rw [hm, List.append_nil] at this
      exact this
    have hargs := fun (P : List Value → Shared → Prop) (hP : ∀ g' s' x, Ext noOwn g s g' s' → C.Rel σ1 g' s'.heap → C.VRs g' s'.heap vs x → P x s') => h nm vm as env 0 ρ σ g s A pos P E h4 F R hA (PostL.mk r1 hP)
    have hplain := plain_args (env := env) args as (pos := pos) h4
    cases b
    case isinst => cases hb1
    case sortedSet => cases hb1
    all_goals first
      | exact Calls.callWith_builtin hplain (evalArgs_any h4 (hargs _ fun g1 s1 xs e1 R1 v1 => key e1 R1 v1))
      | exact PySem.callWith_type hplain (evalArgs_any h4 (hargs _ fun g1 s1 xs e1 R1 v1 => key e1 R1 v1))
  · obtain ⟨pe, hpe⟩ : ∃ pe, args = .cons pe .nil := by
      cases args with
      | nil => cases h8
      | cons pe pes => cases pes with
        | nil => exact ⟨pe, rfl⟩
        | cons => obtain ⟨_, _, q, _, q2⟩ := chkEs_cons h8; cases q; cases q2
    have hst : backTo pos (starEach [e, .Name y p'] env) = backTo pos (starEach [e] env) ++ [(false, eval (.Name y p') env)] := by
      obtain ⟨_, _, q, q1, _⟩ := chkEs_cons (hpe ▸ h8); cases q
      rw [starEach_plain (chk_plain q1), starEach_plain (chk_plain q1)]; rfl
    obtain ⟨_, _, q, q1, _⟩ := chkEs_cons (hpe ▸ h8); cases q
    have e1 : backTo pos (starEach [e] env) = [(false, eval e env)] := by rw [starEach_plain (chk_plain q1)]; rfl
    rw [hst, e1]
    have hE := hh pe .nil hpe
    subst hpe
    refine byC fun hZ => ?_
    obtain ⟨v, σ2, hr, r1⟩ := bind_inv r1
    obtain ⟨ws, σ3, hr3, r1⟩ := bind_inv r1
    obtain ⟨rfl, rfl⟩ := ok_inj hr3
    obtain ⟨rfl, rfl⟩ := ok_inj r1
    refine hZ ?_; clear hZ
    refine Calls.callWith_builtin rfl (Calls.evalArgs_plain (Calls.spliced_cons (hE nm vm e env 0 ρ σ g s A _ _ q1 F R hA (PostE.mk hr fun g1 s1 x x1 R1 v1 => ?_))))
    refine Calls.spliced_cons (name_bi K X (F.ext R x1) R1 h6 h7 (h5 ▸ ty_words t) (h5 ▸ boot_ty K t) (Calls.spliced_nil ?_))
    exact bi_sound (E := E) K hA R1 (.cons v1 .nil) (by intro q; cases q) (hp1 x1)
  · have e1 : backTo pos (starEach [Expr.Call (.Name y p') as2 [] pos2] env) = [(false, eval (.Call (.Name y p') as2 [] pos2) env)] := by rw [starEach_plain rfl]; rfl
    rw [e1]
    have hargs := fun (P : List Value → Shared → Prop) (hP : ∀ g' s' x, Ext noOwn g s g' s' → C.Rel σ1 g' s'.heap → C.VRs g' s'.heap vs x → P x s') => h nm vm as2 env 0 ρ σ g s A pos2 P E h8 F R hA (PostL.mk r1 hP)
    have hplain := plain_args (env := env) args as2 (pos := pos2) h8
    refine Calls.callWith_builtin rfl (Calls.evalArgs_plain (Calls.spliced_cons ?_))
    rw [eval_Call_Name]
    refine wpAny_bind (name_bi K X F R h6 h7 (h5 ▸ (by decide)) (v := .type "set") (by rw [h5, K.builtins _ (by decide)]; decide +kernel) ?_)
    refine PySem.callWith_type hplain (evalArgs_any h8 (hargs _ fun g1 s1 xs x1 R1 v1 => ?_))
    refine byC fun hZ => ?_
    obtain ⟨v, e, hp2⟩ := PostO.bind (hp1 x1)
    obtain ⟨x, rfl, h1⟩ := one_vr e v1
    obtain ⟨ss, h3, hp2⟩ := hp2.bind
    refine hZ ?_; clear hZ
    have hp2 := hp2.ite
    refine set_call hA R1 h1 h3 hp2.1 fun S h' tk hk hS => Calls.spliced_nil ?_
    refine sorted_set hA (R1.kept (.of_all hk)) hS ?_ ?_
    · exact Nat.lt_of_le_of_lt (foldS_len ss []) (by simpa using hp2.1)
    · exact hp2.2.shift (Ext.all hk)

/-! ### methods of lists and dicts -/
theorem ty_list (R : C.Rel σ g s.heap) {v : PV} {x : Value} (hv : C.VR g s.heap v x) (ht : isTy σ .list v = some true) : ∃ a ob, x = .ref a ∧ s.heap.get? a = some ob ∧ ob.cls = .type "list" ∧ ob.dict = none := by
  have hd := deref_sound R hv
  have ht : isTyD .list (deref σ v) = some true := ht
  generalize deref σ v = w at hd ht
  cases w with
  | lst l => obtain ⟨a, vs, rfl, ⟨n, e⟩, _⟩ := hd; exact ⟨_, _, rfl, e, rfl, rfl⟩
  | _ => cases ht
theorem ty_dict (R : C.Rel σ g s.heap) {v : PV} {x : Value} (hv : C.VR g s.heap v x) (ht : isTy σ .dict v = some true) : ∃ a kvs, x = .ref a ∧ s.heap.DictOf (strKind C.prog C.w) a kvs := by
  have hd := deref_sound R hv
  have ht : isTyD .dict (deref σ v) = some true := ht
  generalize deref σ v = w at hd ht
  cases w with
  | dct l => obtain ⟨a, kvs, rfl, _, h1, _⟩ := hd; exact ⟨_, _, rfl, h1⟩
  | _ => cases ht

theorem method_on (R : C.Rel σ g s.heap) {m : BM} {v : PV} {x : Value} {pos : Pos} {trees : List (Bool × Sem Value)} (hv : C.VR g s.heap v x) (ht : isTy σ m.ty v = some true)
    (h : wpAny (model C.prog C.w) A (callWith pos (.builtin m.id) [x] trees []) Q E s) : MethodOnS C.prog C.w A E m.word x pos trees Q s := by
  cases m with
  | append =>
    refine byC fun hZ => ?_
    obtain ⟨a, ob, rfl, h1, h2, h3⟩ := ty_list R hv ht
    refine hZ ?_; clear hZ
    exact ⟨"list", _, PySem.F.plainAttrs_list, PySem.slot_list_append, PySem.type_list_append, ⟨ob, h1, h2⟩, fun b e => by cases e; exact ⟨ob, h1, h3⟩, h⟩
  | extend =>
    refine byC fun hZ => ?_
    obtain ⟨a, ob, rfl, h1, h2, h3⟩ := ty_list R hv ht
    refine hZ ?_; clear hZ
    exact ⟨"list", _, PySem.F.plainAttrs_list, PySem.F.slot_list_extend, PySem.F.type_list_extend, ⟨ob, h1, h2⟩, fun b e => by cases e; exact ⟨ob, h1, h3⟩, h⟩
  | get =>
    obtain ⟨a, kvs, rfl, h1⟩ := ty_dict R hv ht
    exact ⟨"dict", _, PySem.F.plainAttrs_dict, PySem.F.slot_dict_get, PySem.F.type_dict_get, h1.typeIs, h1.mapOf.noDict, h⟩

theorem base_plain {o : Expr} {name : Str} {whole : Sem Value} (h : plainBase o = true) : attributeBase o name env whole = whole := by
  unfold attributeBase
  split
  · cases h
  · rfl

theorem meth_chk {o : PE} {m : BM} {args : PEs} {e : Expr} (hc : chkE (.meth o m args) nm vm e = true) : ∃ o' apos as pos, e = .Call (.Attribute o' m.word apos) as [] pos ∧ plainBase o' = true ∧ (apos.endLine == pos.line) = true ∧ as.length < 20 ∧ chkE o nm vm o' = true ∧ chkEs args nm vm as = true := by
  refine byC fun hZ => ?_
  obtain ⟨fe, as, pos, rfl⟩ := fmCall hc
  obtain ⟨o', name, apos, rfl⟩ := fmAttr hc
  obtain ⟨h12345, h6⟩ := and2 hc
  obtain ⟨h1234, h5⟩ := and2 h12345
  obtain ⟨h123, h4⟩ := and2 h1234
  obtain ⟨h12, h3⟩ := and2 h123
  obtain ⟨h1, h2⟩ := and2 h12
  refine hZ ?_; clear hZ
  have h1 : name = m.word := by simpa using h1
  subst h1
  exact ⟨o', apos, as, pos, rfl, h2, h3, of_decide_eq_true h4, h5, h6⟩

theorem sndE_meth {o : PE} {m : BM} {args : PEs} (ho : SndE C c d o) (h : SndEs C c d args) : SndE C c d (.meth o m args) := by
  intro nm vm e env md ρ σ g s A Q E hc F R hA hp
  refine byC fun hZ => ?_
  obtain ⟨o', apos, as, pos, rfl, h1, h2, h3, h4, h5⟩ := meth_chk hc
  obtain ⟨x, σ1, r1, hp⟩ := hp.bindE
  refine hZ ?_; clear hZ
  split at hp
  · rename_i ht
    refine byC fun hZ => ?_
    obtain ⟨vs, σ2, r2, hp⟩ := hp.bindE
    refine hZ ?_; clear hZ
    have hplain := plain_args (env := env) args as (pos := pos) h5
    refine wpAny_Call_method_lateS (base_plain h1) ?_ h2 (ho nm vm o' env 0 ρ σ g s A _ _ h4 F R hA (PostE.mk r1 fun g1 s1 vx e1 R1 v1 => method_on R1 v1 ht ?_))
    · have : (backTo pos (starEach as env)).all (fun x => !x.1) = true := by
        rw [List.all_eq_true]; intro y hy
        rw [List.any_eq_false] at hplain
        simpa using hplain y hy
      rw [this]
      simp only [Bool.true_and]
      show (true && decide (as.length + 0 + 0 < 30)) = true
      simp; exact om301 h3
    · refine Calls.callWith_builtin hplain (evalArgs_any h5 (h nm vm as env 0 ρ σ1 g1 s1 A pos _ _ h5 (F.ext R e1) R1 hA (PostL.mk r2 fun g2 s2 xs e2 R2 v2 => ?_)))
      refine bm_sound hA R2 (VR_ext R1 e2 Off.none v1) v2 ?_
      cases hq : bmP σ2 m x vs with
      | none => rw [hq] at hp; exact hp.elim
      | some q => rw [hq] at hp; exact fun g3 s3 y e3 R3 v3 => hp g3 s3 y ((e1.trans e2).trans e3) R3 v3
  · exact hp.elim
end Mine

set_option autoImplicit false
set_option backward.match.sparseCases true
set_option linter.unusedVariables false
namespace Mine
open PySem PyProof.Rows PySem.SeqAt

variable {C : Fix} {c : Cx} {σ σ' : AH} {g g' : Cfg} {h h' : Heap} {s s' : Shared} {own : Addr → Prop} {A : Around} {d : Nat} {nm : NM} {vm : VM} {env : Env} {ρ : List PV}
  {E : Value → Shared → Prop}

theorem set_get {ρ : List PV} {i j : Nat} {v w : PV} (h : (ρ.set i v)[j]? = some w) : (j = i ∧ w = v) ∨ (j ≠ i ∧ ρ[j]? = some w) := by
  by_cases hj : j = i
  · subst hj
    have hlt : j < (ρ.set j v).length := (List.getElem?_eq_some_iff.mp h).1
    rw [List.length_set] at hlt
    rw [List.getElem?_set_self hlt] at h
    cases h; exact .inl ⟨rfl, rfl⟩
  · rw [List.getElem?_set_ne (Ne.symm hj)] at h; exact .inr ⟨hj, h⟩

theorem ns_cell_ne {h : Heap} {a b : Addr} {m : Str → Option Value} {o : Option Value} (x : h.Ns a m) (y : h.IsCell b o) : b ≠ a := by
  rintro rfl
  refine byC fun hZ => ?_
  obtain ⟨ob, es, ep, h1, h2, _⟩ := x
  obtain ⟨oc, h3, h4⟩ := y
  refine hZ ?_; clear hZ
  rw [h1] at h3; cases h3; rw [h2] at h4; cases h4

theorem store_sound {M : Model} {Q : Unit → Shared → Prop} (F : FR C nm vm env ρ g s.heap) (R : C.Rel σ g s.heap) {x : Str} {i : Nat} {v : PV} {y : Value} (hx : vm.lookup x = some i) (ho : isOwn (nm.lookup x) = true) (hv : C.VR g s.heap v y)
    (hoL : own env.locals) (hoC : nm.lookup x = some .cell → ∀ c, env.cells.lookup x = some c → own c)
    (hq : ∀ s', FR C nm vm env (ρ.set i v) g s'.heap → C.Rel σ g s'.heap → Ext own g s g s' → Q () s') : wpAny M A (storeName env x y) Q E s := by
  have hkind : env.kindOf x = nm.lookup x := by rw [← F.names]; rfl
  cases hk : nm.lookup x with
  | none => rw [hk] at ho; cases ho
  | some k =>
    rw [hk] at ho hkind
    cases k <;> first | cases ho | skip
    · -- local
      refine byC fun hZ => ?_
      obtain ⟨m, n1, n2⟩ := F.ns
      refine hZ ?_; clear hZ
      refine wpAny_storeName_local hkind n1 (fun h' hn' hs' => ?_) (by rw [F.kind]; rfl)
      have hk' : ∀ b o, b ≠ env.locals → s.heap.get? b = some o → h'.get? b = some o := fun b o hb e => by rw [hs'.2 b hb]; exact e
      have kept : Kept g s.heap h' := .of_but hk' F.offL
      refine hq _ ⟨F.kind, F.names, F.glob, F.blt, F.inj, ⟨_, hn', fun z j w a1 a2 a3 a4 => ?_⟩, fun z j a1 a2 => ?_, F.offL, F.offC, fun z cc b1 => ?_, F.apart⟩ (R.kept kept) (Ext.heap (fun b o e _ hb => hk' b o (fun q => hb (q ▸ hoL)) e) fun b hb => ?_)
      · rcases set_get a3 with ⟨rfl, rfl⟩ | ⟨hj, a5⟩
        · have := F.inj z x _ a1 hx; subst this
          exact ⟨y, by simp, VR_kept (C := C) kept hv⟩
        · have hzx : z ≠ x := fun q => hj (by subst q; rw [hx] at a1; exact (Option.some.inj a1).symm)
          obtain ⟨u, u1, u2⟩ := n2 z j w a1 a2 a5 a4
          exact ⟨u, by simp [hzx, u1], VR_kept (C := C) kept u2⟩
      · refine byC fun hZ => ?_
        obtain ⟨cc, o, b1, b2, b3⟩ := F.cl z j a1 a2
        refine hZ ?_; clear hZ
        refine ⟨cc, o, b1, b2.sameBut hs' (ns_cell_ne n1 b2), fun w a3 a4 => ?_⟩
        rcases set_get a3 with ⟨rfl, rfl⟩ | ⟨hj, a5⟩
        · have := F.inj z x _ a1 hx; subst this
          rw [hk] at a2; cases a2
        · obtain ⟨u, u1, u2⟩ := b3 w a5 a4
          exact ⟨u, u1, VR_kept (C := C) kept u2⟩
      · obtain ⟨o, b2⟩ := F.cliv z cc b1
        exact ⟨o, b2.sameBut hs' (ns_cell_ne n1 b2)⟩
      · by_cases hba : b = env.locals
        · subst hba; obtain ⟨o, ho⟩ := Heap.Ns.live hn'; exact isSome_of ho
        · obtain ⟨o, ho⟩ := Option.isSome_iff_exists.mp hb; exact isSome_of (hk' b o hba ho)
    · -- cell
      obtain ⟨cc, o, b1, b2, b3⟩ := F.cl x i hx (by rw [hk]; rfl)
      refine byC fun hZ => ?_
      obtain ⟨m, n1, n2⟩ := F.ns
      refine hZ ?_; clear hZ
      refine wpAny_storeName_cell F.kind hkind b1 b2 fun h' hc' hs' => ?_
      have hk' : ∀ b o, b ≠ cc → s.heap.get? b = some o → h'.get? b = some o := fun b o hb e => by rw [hs'.2 b hb]; exact e
      have kept : Kept g s.heap h' := .of_but hk' (F.offC x cc b1)
      have hne := ns_cell_ne n1 b2
      refine hq _ ⟨F.kind, F.names, F.glob, F.blt, F.inj, ⟨m, n1.sameBut hs' (Ne.symm hne), fun z j w a1 a2 a3 a4 => ?_⟩, fun z j a1 a2 => ?_, F.offL, F.offC, fun z c' d1 => ?_, F.apart⟩ (R.kept kept) (Ext.heap (tk := s.toks) (fun b o e _ hb => hk' b o (fun q => hb (q ▸ hoC hk cc b1)) e) fun b hb => ?_)
      · rcases set_get a3 with ⟨rfl, rfl⟩ | ⟨hj, a5⟩
        · have := F.inj z x _ a1 hx; subst this
          rw [hk] at a2; cases a2
        · obtain ⟨u, u1, u2⟩ := n2 z j w a1 a2 a5 a4
          exact ⟨u, u1, VR_kept (C := C) kept u2⟩
      · refine byC fun hZ => ?_
        obtain ⟨c', o', d1, d2, d3⟩ := F.cl z j a1 a2
        refine hZ ?_; clear hZ
        by_cases hzx : z = x
        · subst hzx
          rw [b1] at d1; cases d1
          refine ⟨cc, some y, b1, hc', fun w a3 a4 => ?_⟩
          rcases set_get a3 with ⟨_, rfl⟩ | ⟨hj, a5⟩
          · exact ⟨y, rfl, VR_kept (C := C) kept hv⟩
          · rw [hx] at a1; exact absurd (Option.some.inj a1).symm hj
        · have hcc : c' ≠ cc := fun q => hzx (F.apart z x cc (q ▸ d1) b1)
          refine ⟨c', o', d1, d2.sameBut hs' hcc, fun w a3 a4 => ?_⟩
          rcases set_get a3 with ⟨rfl, _⟩ | ⟨hj, a5⟩
          · exact absurd (F.inj z x _ a1 hx) hzx
          · obtain ⟨u, u1, u2⟩ := d3 w a5 a4
            exact ⟨u, u1, VR_kept (C := C) kept u2⟩
      · by_cases hcc : c' = cc
        · subst hcc; exact ⟨_, hc'⟩
        · obtain ⟨o', d2⟩ := F.cliv z c' d1
          exact ⟨o', d2.sameBut hs' hcc⟩
      · by_cases hba : b = cc
        · subst hba; obtain ⟨o, ho, _⟩ := hc'; exact isSome_of ho
        · obtain ⟨o, ho⟩ := Option.isSome_iff_exists.mp hb; exact isSome_of (hk' b o hba ho)

theorem assign_name {M : Model} {Q : Unit → Shared → Prop} {x : Str} {p : Pos} {y : Value} (h : wpAny M A (storeName env x y) Q E s) : wpAny M A (assign (.Name x p) env y) Q E s := by
  show wpAny M A (standAt p >>= fun _ => bindName env x y) Q E s
  exact wpAny_bind (wpAny_standAt (wpAny_bindName h))

theorem chkNames_cons {i : Nat} {is : List Nat} {es : List Expr} (h : chkNames nm vm (i :: is) es = true) : ∃ x p es', es = .Name x p :: es' ∧ vm.lookup x = some i ∧ isOwn (nm.lookup x) = true ∧ chkNames nm vm is es' = true := by
  cases es with
  | nil => cases h
  | cons e es =>
    refine byC fun hZ => ?_
    obtain ⟨x, p, rfl⟩ := fmName h
    obtain ⟨h12, h3⟩ := and2 (show (vm.lookup x == some i && isOwn (nm.lookup x) && chkNames nm vm is es) = true from h)
    obtain ⟨h1, h2⟩ := and2 h12
    refine hZ ?_; clear hZ
    exact ⟨x, p, es, rfl, by simpa using h1, h2, h3⟩
theorem chkNames_nil {es : List Expr} (h : chkNames nm vm [] es = true) : es = [] := by
  cases es with
  | nil => rfl
  | cons e es => cases h

theorem assignIn {Q : Unit → Shared → Prop} (hoff : Off own g) (hoL : own env.locals) : ∀ (is : List Nat) (es : List Expr) (l : List PV) (xs : List Value) (ρ : List PV) (s : Shared), chkNames nm vm is es = true → l.length = is.length → FR C nm vm env ρ g s.heap → C.Rel σ g s.heap → C.VRs g s.heap l xs →
    (∀ x ∈ namesOf es, nm.lookup x = some .cell → ∀ c, env.cells.lookup x = some c → own c) →
    (∀ s', FR C nm vm env (setAll ρ is l) g s'.heap → C.Rel σ g s'.heap → Ext own g s g s' → Q () s') → wpAny (model C.prog C.w) A (assignInOrder ((assignEach es env).map (·.2)) xs) Q E s := by
  intro is
  induction is with
  | nil =>
    intro es l xs ρ s hc hl F R hv hoC hq
    rw [chkNames_nil hc]
    have : l = [] := List.length_eq_zero_iff.mp hl
    subst this; cases hv
    exact wpAny_pure (hq s F R (Ext.refl g s))
  | cons i is ih =>
    intro es l xs ρ s hc hl F R hv hoC hq
    refine byC fun hZ => ?_
    obtain ⟨x, p, es', rfl, h1, h2, h3⟩ := chkNames_cons hc
    refine hZ ?_; clear hZ
    cases hv with
    | nil => cases hl
    | @cons v y l xs hv hvs =>
      show wpAny _ _ (holding xs (assign (.Name x p) env y) >>= fun _ => assignInOrder ((assignEach es' env).map (·.2)) xs) _ _ _
      refine wpAny_bind (wpAny_holding (assign_name (store_sound F R h1 h2 hv hoL (hoC x (List.mem_cons_self ..)) fun s1 F1 R1 e1 => ?_)))
      refine ih es' l xs (ρ.set i v) s1 h3 (by simpa using hl) F1 R1 (VRs_ext R e1 hoff hvs) (fun z hz => hoC z (List.mem_cons_of_mem _ hz)) fun s2 F2 R2 e2 => hq s2 F2 R2 (e1.trans e2)

theorem assignEach_names : ∀ (is : List Nat) (es : List Expr), chkNames nm vm is es = true → (assignEach es env).length = is.length ∧ (assignEach es env).findIdx? (·.1) = none
  | [], es, h => by rw [chkNames_nil h]; exact ⟨rfl, rfl⟩
  | i :: is, es, h => by
    refine byC fun hZ => ?_
    obtain ⟨x, p, es', rfl, _, _, h3⟩ := chkNames_cons h
    obtain ⟨q1, q2⟩ := assignEach_names is es' h3
    refine hZ ?_; clear hZ
    have e : assignEach (.Name x p :: es') env = (false, assign (.Name x p) env) :: assignEach es' env := rfl
    rw [e]
    exact ⟨by simp [q1], by rw [List.findIdx?_cons]; simp [q2]⟩

theorem assign_sound {Q : Unit → Shared → Prop} (hh : A.handled = none) (hoff : Off own g) (hoL : own env.locals) {t : Tgt} {tg : Expr} {v : PV} {y : Value} {ρ1 : List PV} (hc : chkT nm vm t tg = true) (F : FR C nm vm env ρ g s.heap) (R : C.Rel σ g s.heap) (hv : C.VR g s.heap v y)
    (hoC : ∀ x ∈ tgtNames tg, nm.lookup x = some .cell → ∀ c, env.cells.lookup x = some c → own c) (hb : bindT t v ρ = some ρ1)
    (hq : ∀ s', FR C nm vm env ρ1 g s'.heap → C.Rel σ g s'.heap → Ext own g s g s' → Q () s') : wpAny (model C.prog C.w) A (assign tg env y) Q E s := by
  cases t with
  | one i =>
    refine byC fun hZ => ?_
    obtain ⟨x, p, rfl⟩ := fmName hc
    obtain ⟨h1, h2⟩ := and2 (show (vm.lookup x == some i && isOwn (nm.lookup x)) = true from hc)
    refine hZ ?_; clear hZ
    cases hb
    exact assign_name (store_sound F R (by simpa using h1) h2 hv hoL (hoC x (List.mem_singleton.mpr rfl)) hq)
  | many is =>
    refine byC fun hZ => ?_
    obtain ⟨es, ctx, p, rfl⟩ := fmTup hc
    refine hZ ?_; clear hZ
    have hc' : chkNames nm vm is es = true := hc
    cases hv with
    | @tup l a vs h0 hl hr =>
      have hb' : (if l.length = is.length then some (setAll ρ is l) else none) = some ρ1 := hb
      split at hb'
      · rename_i hlen
        cases hb'
        obtain ⟨q1, q2⟩ := assignEach_names (env := env) is es hc'
        have hsz := hr.size
        refine wpAny_assign_Tuple hh (isTuple_of hl) (by exact om303 hlen q1 hsz) q2 fun h' hk => ?_
        have hk' : ∀ b o, s.heap.get? b = some o → h'.get? b = some o := fun b o e => hk b o (Nat.ne_of_lt (Heap.lt_size e)) e
        have e1 : Ext noOwn g s g { s with heap := h' } := Ext.all (tk := s.toks) hk'
        exact assignIn hoff hoL is es l vs.toList ρ { s with heap := h' } hc' hlen (F.ext R e1) (R.kept (.of_all hk')) (VRs_kept (C := C) (.of_all hk') hr) hoC fun s2 F2 R2 e2 => hq s2 F2 R2 (e1.weaken.trans e2)
      · cases hb'
    | _ => cases hb

theorem owned_go {Q : Unit → Shared → Prop} {tg : Expr} {I : Addr} {y : Value} (hp : PlainIter s.heap I ∨ (∀ es ctx p, tg ≠ .Tuple es ctx p)) (hl : ∀ es p, tg ≠ .List es p) (h : Q () s) : wpAny (model C.prog C.w) A (letOwnedTupleGo tg (.ref I) y) Q E s := by
  cases tg <;> first | exact wpAny_pure h | skip
  · exact absurd rfl (hl _ _)
  · rcases hp with ⟨ob, n, h1, h2, h3⟩ | hp
    · unfold letOwnedTupleGo
      cases y <;> first | exact wpAny_pure h | skip
      refine wpAny_bind (wpAny_load h1 ?_)
      rw [h2]
      cases ob.data <;> first | exact wpAny_pure h | skip
      simp only [h3, Bool.false_and, Bool.false_eq_true, if_false]
      exact wpAny_pure h
    · exact absurd rfl (hp _ _ _)
end Mine

set_option autoImplicit false
set_option backward.match.sparseCases true
set_option linter.unusedVariables false
namespace Mine
open PySem PyProof.Rows PySem.SeqAt

variable {C : Fix} {c : Cx} {σ σ' : AH} {g g' : Cfg} {h h' : Heap} {s s' : Shared} {own : Addr → Prop} {A : Around} {d : Nat} {nm : NM} {vm : VM} {env : Env} {ρ : List PV}
  {E : Value → Shared → Prop}

/-! ### locks -/
noncomputable def Cfg.withLk (g : Cfg) (L : Addr → Prop) : Cfg := ⟨g.μ, g.Φ, L⟩
theorem VR_lk {L : Addr → Prop} {v : PV} {x : Value} (hv : C.VR g h v x) : C.VR (g.withLk L) h v x := VR.mono (g := g) (g' := g.withLk L) (List.prefix_refl g.μ) (fun _ q => q) (fun _ _ _ e => e) hv
theorem VRs_lk {L : Addr → Prop} {v : List PV} {x : List Value} (hv : C.VRs g h v x) : C.VRs (g.withLk L) h v x := VRs.mono (g := g) (g' := g.withLk L) (List.prefix_refl g.μ) (fun _ q => q) (fun _ _ _ e => e) hv
theorem VRd_lk {L : Addr → Prop} {v : List (Str × PV)} {x : List (Str × Value)} (hv : C.VRd g h v x) : C.VRd (g.withLk L) h v x := VRd.mono (g := g) (g' := g.withLk L) (List.prefix_refl g.μ) (fun _ q => q) (fun _ _ _ e => e) hv

theorem relock (R : C.Rel σ g h) {L : Addr → Prop} {σ' : AH} (hl : σ'.length = σ.length) (hlk : ∀ a, L a → a ∈ g.μ) (ho : ∀ (i : Nat) o a, σ'[i]? = some o → g.μ[i]? = some a → C.OR (g.withLk L) h o a) : C.Rel σ' (g.withLk L) h where
  rel := { len := R.rel.len.trans hl.symm, nodup := R.rel.nodup, disj := R.rel.disj, lkμ := hlk, live := R.rel.live, base := R.rel.base, baseμ := R.rel.baseμ, objs := ho }
  bas := R.bas
  sys := R.sys

/-- the addresses that are locked while v is gone through -/
noncomputable def lockSet (g : Cfg) (v : PV) : Addr → Prop := fun b => g.lk b ∨ ∃ i, v = .ref i ∧ g.μ[i]? = some b

theorem lockAt_len {i : Nat} {b : Bool} : (lockAt σ i b).length = σ.length := by
  unfold lockAt; split <;> simp
theorem lockV_len {v : PV} {b : Bool} : (lockV σ v b).length = σ.length := by
  unfold lockV; split
  · exact lockAt_len
  · rfl
theorem lockAt_ne {i j : Nat} {b : Bool} (h : j ≠ i) : (lockAt σ i b)[j]? = σ[j]? := by
  unfold lockAt; split
  · rw [List.getElem?_set_ne (Ne.symm h)]
  · rw [List.getElem?_set_ne (Ne.symm h)]
  · rfl
noncomputable def AObj.flag (b : Bool) : AObj → AObj
  | .list _ l => .list b l
  | .dict _ l => .dict b l
  | o => o
theorem lockAt_self {i : Nat} {b : Bool} : (lockAt σ i b)[i]? = (σ[i]?).map (AObj.flag b) := by
  unfold lockAt
  cases ho : σ[i]? with
  | none => simp [ho]
  | some o =>
    have hlt := (List.getElem?_eq_some_iff.mp ho).1
    cases o <;> simp [List.getElem?_set_self hlt, ho, AObj.flag]

theorem OR_flag {L : Addr → Prop} {o o' : AObj} {a : Addr} (hor : C.OR g h o a) (hu : derefO (some o) ≠ .undef) (b : Bool) (ho : o' = AObj.flag b o) (hb : b = true ↔ L a) : C.OR (g.withLk L) h o' a := by
  subst ho
  cases o with
  | list b l => obtain ⟨_, vs, h1, h2⟩ := hor; exact ⟨hb, vs, h1, VRs_lk h2⟩
  | dict b l => obtain ⟨_, kvs, h1, h2⟩ := hor; exact ⟨hb, kvs, h1, VRd_lk h2⟩
  | inst k d => exact absurd rfl hu
  | ns l => exact absurd rfl hu
theorem OR_same {L : Addr → Prop} {o : AObj} {a : Addr} (hor : C.OR g h o a) (hL : L a ↔ g.lk a) : C.OR (g.withLk L) h o a := by
  cases o with
  | list b l => obtain ⟨h0, vs, h1, h2⟩ := hor; exact ⟨h0.trans hL.symm, vs, h1, VRs_lk h2⟩
  | dict b l => obtain ⟨h0, kvs, h1, h2⟩ := hor; exact ⟨h0.trans hL.symm, kvs, h1, VRd_lk h2⟩
  | inst k d => exact ⟨fun q => hor.1 (hL.mp q), hor.2⟩
  | ns l => obtain ⟨hl, m, e, q⟩ := hor; exact ⟨fun q => hl (hL.mp q), m, e, NsR.mono (g' := g.withLk L) (List.prefix_refl g.μ) (fun _ q => q) (fun _ _ _ e => e) q⟩

theorem mu_inj (R : C.Rel σ g h) {i j : Nat} {a : Addr} (h1 : g.μ[i]? = some a) (h2 : g.μ[j]? = some a) : i = j := by
  have l1 := (List.getElem?_eq_some_iff.mp h1).1
  exact (List.getElem?_inj l1 R.rel.nodup).mp (h1.trans h2.symm)

theorem items_ref {v : PV} {l : List PV} (hi : items σ v = some l) : ∀ i, v = .ref i → derefO σ[i]? ≠ .undef := by
  rintro i rfl e
  have hi : itemsD (derefO σ[i]?) = some l := hi
  rw [e] at hi
  cases hi
theorem lock_rel (R : C.Rel σ g h) {v : PV} (hk : ∀ i, v = .ref i → derefO σ[i]? ≠ .undef) : C.Rel (lockV σ v true) (g.withLk (lockSet g v)) h := by
  refine relock R lockV_len (fun a ha => ?_) fun j o b h1 h2 => ?_
  · rcases ha with ha | ⟨i, _, ha⟩
    · exact R.rel.lkμ a ha
    · exact List.mem_of_getElem? ha
  · have other : (∀ i, v = .ref i → j ≠ i) → C.OR (g.withLk (lockSet g v)) h o b := fun hne => by
      have h1' : σ[j]? = some o := by
        unfold lockV at h1
        split at h1
        · rw [lockAt_ne (hne _ rfl)] at h1; exact h1
        · exact h1
      refine OR_same (R.rel.objs j o b h1' h2) ⟨fun q => q.elim id fun ⟨i, q1, q2⟩ => ?_, fun q => .inl q⟩
      exact absurd (mu_inj R h2 q2) (hne i q1)
    by_cases hv : v = .ref j
    · subst hv
      have h1' : (lockAt σ j true)[j]? = some o := h1
      rw [lockAt_self] at h1'
      obtain ⟨o0, q1, q2⟩ := Option.map_eq_some_iff.mp h1'
      exact OR_flag (R.rel.objs j o0 b q1 h2) (q1 ▸ hk j rfl) true q2.symm ⟨fun _ => .inr ⟨j, rfl, h2⟩, fun _ => rfl⟩
    · exact other fun i hi hji => hv (by rw [hi, hji])

theorem unlock_rel (R0 : C.Rel σ g h) (R : C.Rel σ' g' h') {v : PV} (hp : g.μ <+: g'.μ) (hlk : g'.lk = lockSet g v) (hv : ∀ i, v = .ref i → ∃ a, g.μ[i]? = some a) (hk : ∀ i, v = .ref i → derefO σ[i]? ≠ .undef) : C.Rel (lockV σ' v (lkV σ v)) (g'.withLk g.lk) h' := by
  have up : ∀ {i : Nat} {a : Addr}, g.μ[i]? = some a → g'.μ[i]? = some a := fun {i a} e => by
    obtain ⟨t, ht⟩ := hp
    rw [← ht, List.getElem?_append_left (List.getElem?_eq_some_iff.mp e).1]; exact e
  refine relock R lockV_len (fun a ha => ?_) fun j o b h1 h2 => ?_
  · obtain ⟨i, hi⟩ := List.getElem?_of_mem (R0.rel.lkμ a ha)
    exact List.mem_of_getElem? (up hi)
  · by_cases hvj : v = .ref j
    · subst hvj
      have h1' : (lockAt σ' j (lkV σ (.ref j)))[j]? = some o := h1
      rw [lockAt_self] at h1'
      obtain ⟨o0, q1, q2⟩ := Option.map_eq_some_iff.mp h1'
      obtain ⟨a, ha⟩ := hv j rfl
      have hab : a = b := by have := up ha; rw [h2] at this; exact (Option.some.inj this).symm
      subst hab
      have hla : g'.lk a := by rw [hlk]; exact .inr ⟨j, rfl, ha⟩
      have hu : derefO (some o0) ≠ .undef := by
        have hor := R.rel.objs j o0 a q1 h2
        cases o0 with
        | list b l => exact fun q => nomatch q
        | dict b l => exact fun q => nomatch q
        | inst k d => exact absurd hla hor.1
        | ns l => exact absurd hla hor.1
      refine OR_flag (R.rel.objs j o0 a q1 h2) hu _ q2.symm ?_
      have hlt : j < σ.length := R0.rel.len ▸ (List.getElem?_eq_some_iff.mp ha).1
      have hor := R0.rel.objs j σ[j] a (by simp [hlt]) ha
      show lkAt σ j = true ↔ g.lk a
      unfold lkAt
      have e : σ[j]? = some σ[j] := by simp [hlt]
      rw [e]
      cases hx : σ[j] with
      | list b l => rw [hx] at hor; exact hor.1
      | dict b l => rw [hx] at hor; exact hor.1
      | inst k d => exact absurd (by rw [e, hx]; rfl) (hk j rfl)
      | ns l => exact absurd (by rw [e, hx]; rfl) (hk j rfl)
    · have h1' : σ'[j]? = some o := by
        unfold lockV at h1
        split at h1
        · rename_i i; rw [lockAt_ne (fun q => hvj (by rw [q]))] at h1; exact h1
        · exact h1
      refine OR_same (R.rel.objs j o b h1' h2) ⟨fun q => by rw [hlk]; exact .inl q, fun q => ?_⟩
      rw [hlk] at q
      rcases q with q | ⟨i, rfl, q⟩
      · exact q
      · exact absurd (mu_inj R h2 (up q)) fun e => hvj (by rw [e])

theorem Ext.relock {L : Addr → Prop} (e : Ext own (g.withLk L) s g' s') (h : ∀ b, g.lk b → L b) : Ext own g s (g'.withLk g.lk) s' :=
  ⟨e.pre, e.sub, e.newμ, e.newΦ, rfl, fun b o q1 q2 q3 => e.keep b o q1 (q2.imp id (h b)) q3, e.live, e.gens, e.os⟩
end Mine

set_option autoImplicit false
set_option backward.match.sparseCases true
set_option linter.unusedVariables false
namespace Mine
open PySem PyProof.Rows PySem.SeqAt

variable {C : Fix} {c : Cx} {σ σ' : AH} {g g' : Cfg} {h h' : Heap} {s s' : Shared} {own : Addr → Prop} {A : Around} {d : Nat} {nm : NM} {vm : VM} {env : Env} {ρ : List PV}
  {E : Value → Shared → Prop}

noncomputable def closOf (env : Env) : NM → List (Str × Addr) → List (Str × Addr)
  | [], acc => acc
  | (n, k) :: r, acc => closOf env r (if k == .free then (n, (env.cells.lookup n).getD 0) :: acc else acc)

theorem closure_eq {scope : Scope} (h : ∀ n, (n, NameKind.free) ∈ scope.names → ∃ c, env.cells.lookup n = some c) : closureFor scope env = pure (closOf env scope.names []) := by
  unfold closureFor
  have key : ∀ (l : NM) (acc : List (Str × Addr)) (f : Str × NameKind → List (Str × Addr) → Sem (ForInStep (List (Str × Addr)))), (∀ n k cs, f (n, k) cs = if (k == .free) = true then (do let c ← cellOf env n; pure (.yield ((n, c) :: cs))) else pure (.yield cs)) →
      (∀ n, (n, NameKind.free) ∈ l → ∃ c, env.cells.lookup n = some c) → forIn l acc f = pure (closOf env l acc) := by
    intro l
    induction l with
    | nil => intro acc f hf hl; simp [closOf]
    | cons p r ih =>
      intro acc f hf hl
      obtain ⟨n, k⟩ := p
      rw [List.forIn_cons, hf]
      by_cases hk : (k == NameKind.free) = true
      · have hk' : k = .free := by simpa using hk
        subst hk'
        obtain ⟨cc, hc⟩ := hl n (List.mem_cons_self ..)
        rw [if_pos hk]
        have : cellOf env n = pure cc := by unfold cellOf; rw [hc]
        rw [this]
        simp only [pure_bind]
        rw [ih _ f hf fun m hm => hl m (List.mem_cons_of_mem _ hm)]
        simp [closOf, hc]
      · rw [if_neg hk]
        simp only [pure_bind]
        rw [ih _ f hf fun m hm => hl m (List.mem_cons_of_mem _ hm)]
        simp [closOf, hk]
  dsimp only
  rw [key scope.names [] _ (fun n k cs => by cases hk : (k == NameKind.free) <;> simp [hk]) h]
  simp
theorem closOf_sub : ∀ (l : NM) (acc : List (Str × Addr)), (∀ n, (n, NameKind.free) ∈ l → ∃ c, env.cells.lookup n = some c) → (∀ n c, acc.lookup n = some c → env.cells.lookup n = some c) → ∀ n c, (closOf env l acc).lookup n = some c → env.cells.lookup n = some c
  | [], acc, _, ha, n, c, h => ha n c h
  | (m, k) :: r, acc, hl, ha, n, c, h => by
    refine closOf_sub r _ (fun m hm => hl m (List.mem_cons_of_mem _ hm)) (fun n' c' h' => ?_) n c h
    by_cases hk : (k == NameKind.free) = true
    · have hk' : k = .free := by simpa using hk
      subst hk'
      obtain ⟨cc, hc⟩ := hl m (List.mem_cons_self ..)
      simp only [beq_self_eq_true, if_true, List.lookup_cons, hc, Option.getD_some] at h'
      cases hn : n' == m with
      | true => rw [hn] at h'; have : n' = m := by simpa using hn
                subst this; rw [hc]; exact h'
      | false => rw [hn] at h'; exact ha n' c' h'
    · simp only [hk, if_false] at h'; exact ha n' c' h'
theorem closOf_has : ∀ (l : NM) (acc : List (Str × Addr)) (n : Str), (n, NameKind.free) ∈ l ∨ (acc.lookup n).isSome = true → ((closOf env l acc).lookup n).isSome = true
  | [], acc, n, h => h.elim (fun q => (nomatch q)) id
  | (m, k) :: r, acc, n, h => by
    refine closOf_has r _ n ?_
    rcases h with h | h
    · rcases List.mem_cons.mp h with e | h
      · cases e; right; simp
      · exact .inl h
    · right
      split
      · rw [List.lookup_cons]; split
        · rfl
        · exact h
      · exact h
theorem closOf_get {l : NM} (hl : ∀ n, (n, NameKind.free) ∈ l → ∃ c, env.cells.lookup n = some c) {n : Str} {cc : Addr} (hn : (n, NameKind.free) ∈ l) (hc : env.cells.lookup n = some cc) : (closOf env l []).lookup n = some cc := by
  obtain ⟨c', h'⟩ := Option.isSome_iff_exists.mp (closOf_has l [] n (.inl hn))
  have := closOf_sub l [] hl (fun _ _ q => (nomatch q)) n c' h'
  rw [hc] at this; cases this; exact h'

/-! slots -/
theorem kill_get {ks : List Nat} : ∀ {ρ : List PV} {i : Nat} {v : PV}, (kill ks ρ)[i]? = some v → v ≠ .undef → i ∉ ks ∧ ρ[i]? = some v := by
  induction ks with
  | nil => intro ρ i v h hv; exact ⟨by simp, h⟩
  | cons k ks ih =>
    intro ρ i v h hv
    have h' : (kill ks (ρ.set k .undef))[i]? = some v := h
    obtain ⟨h1, h2⟩ := ih h' hv
    rcases set_get h2 with ⟨rfl, rfl⟩ | ⟨h3, h4⟩
    · exact absurd rfl hv
    · exact ⟨fun q => (List.mem_cons.mp q).elim h3 h1, h4⟩
theorem setAll_keep : ∀ (is : List Nat) (l ρ : List PV) {i : Nat}, i ∉ is → (setAll ρ is l)[i]? = ρ[i]?
  | [], l, ρ, i, h => by cases l <;> rfl
  | k :: is, [], ρ, i, h => rfl
  | k :: is, v :: l, ρ, i, h => by
    show (setAll (ρ.set k v) is l)[i]? = _
    rw [setAll_keep is l _ (fun q => h (List.mem_cons_of_mem _ q)), List.getElem?_set_ne (by rintro rfl; exact h (List.mem_cons_self ..))]
theorem bindT_keep {t : Tgt} {v : PV} {ρ ρ1 : List PV} (hb : bindT t v ρ = some ρ1) {i : Nat} (hi : i ∉ tgtSlots t) : ρ1[i]? = ρ[i]? := by
  cases t with
  | one k => cases hb; exact List.getElem?_set_ne (fun q => hi (by rw [← q]; exact List.mem_singleton.mpr rfl))
  | many is =>
    cases v <;> first | cases hb | skip
    rename_i l
    have hb' : (if l.length = is.length then some (setAll ρ is l) else none) = some ρ1 := hb
    split at hb'
    · cases hb'; exact setAll_keep is l ρ hi
    · cases hb'

theorem FR.sub {ρ0 ρ1 : List PV} (F : FR C nm vm env ρ1 g h) (hs : ∀ (i : Nat) v, ρ0[i]? = some v → v ≠ .undef → ρ1[i]? = some v) : FR C nm vm env ρ0 g h :=
  ⟨F.kind, F.names, F.glob, F.blt, F.inj, let ⟨m, n1, n2⟩ := F.ns; ⟨m, n1, fun x i v a1 a2 a3 a4 => n2 x i v a1 a2 (hs i v a3 a4) a4⟩,
    fun x i a1 a2 => let ⟨cc, o, b1, b2, b3⟩ := F.cl x i a1 a2; ⟨cc, o, b1, b2, fun v a3 a4 => b3 v (hs i v a3 a4) a4⟩, F.offL, F.offC, F.cliv, F.apart⟩

/-! the comprehension's own frame -/
theorem lookup_map_kind {f : Str → NameKind → NameKind} : ∀ (l : NM) (x : Str), (l.map fun p => (p.1, f p.1 p.2)).lookup x = (l.lookup x).map (f x)
  | [], x => rfl
  | (n, k) :: r, x => by
    simp only [List.map_cons, List.lookup_cons]
    cases hx : x == n with
    | true => have : x = n := by simpa using hx
              subst this; rfl
    | false => exact lookup_map_kind r x
theorem compNames_lookup (nm own : NM) (x : Str) : (compNames nm own).lookup x = (own.lookup x).map fun k => if k == .free && nm.lookup x == some .cell then .cell else k := by
  rw [← lookup_map_kind (f := fun x k => if k == .free && nm.lookup x == some .cell then .cell else k)]
  unfold compNames
  congr 1
  refine List.map_congr_left fun p _ => ?_
  obtain ⟨n, k⟩ := p
  dsimp only
  split <;> rfl
theorem relabel_names (hk : env.scope.kind = .function) (hn : env.scope.names = nm) (scope : Scope) : (relabel scope env).names = compNames nm scope.names := by
  unfold relabel compNames
  refine List.map_congr_left fun p _ => ?_
  obtain ⟨n, k⟩ := p
  have e : env.kindOf n = nm.lookup n := by rw [← hn]; rfl
  simp only [hk, e, beq_self_eq_true, Bool.and_true]

theorem lookup_mem_pair {α : Type} : ∀ {l : List (Str × α)} {x : Str} {a : α}, l.lookup x = some a → (x, a) ∈ l
  | (n, b) :: r, x, a, h => by
    rw [List.lookup_cons] at h
    cases hx : x == n with
    | true => rw [hx] at h; cases h; have : x = n := by simpa using hx
              subst this; exact List.mem_cons_self ..
    | false => rw [hx] at h; exact List.mem_cons_of_mem _ (lookup_mem_pair h)
theorem lookup_inj {l : VM} (hn : (l.map (·.2)).Nodup) {x y : Str} {i : Nat} (h1 : l.lookup x = some i) (h2 : l.lookup y = some i) : x = y := by
  have m1 := lookup_mem_pair h1
  have m2 := lookup_mem_pair h2
  clear h1 h2
  induction l with
  | nil => cases m1
  | cons p r ih =>
    rw [List.map_cons, List.nodup_cons] at hn
    rcases List.mem_cons.mp m1 with e1 | e1 <;> rcases List.mem_cons.mp m2 with e2 | e2
    · rw [← e1] at e2; cases e2; rfl
    · subst e1; exact absurd (List.mem_map.mpr ⟨_, e2, rfl⟩) hn.1
    · subst e2; exact absurd (List.mem_map.mpr ⟨_, e1, rfl⟩) hn.1
    · exact ih hn.2 e1 e2
theorem zip_lookup : ∀ (ns : List Str) (is : List Nat) (vm : VM) (x : Str) (i : Nat), ns.length = is.length → (ns.zip is ++ vm).lookup x = some i → (x ∈ ns ∧ i ∈ is) ∨ (x ∉ ns ∧ vm.lookup x = some i)
  | [], is, vm, x, i, hl, h => .inr ⟨by simp, by simpa using h⟩
  | n :: ns, [], vm, x, i, hl, h => by cases hl
  | n :: ns, k :: is, vm, x, i, hl, h => by
    rw [List.zip_cons_cons, List.cons_append, List.lookup_cons] at h
    cases hx : x == n with
    | true => rw [hx] at h; cases h; have : x = n := by simpa using hx
              subst this; exact .inl ⟨List.mem_cons_self .., List.mem_cons_self ..⟩
    | false =>
      rw [hx] at h
      have hne : x ≠ n := by simpa using hx
      rcases zip_lookup ns is vm x i (by simpa using hl) h with ⟨a, b⟩ | ⟨a, b⟩
      · exact .inl ⟨List.mem_cons_of_mem _ a, List.mem_cons_of_mem _ b⟩
      · exact .inr ⟨fun q => (List.mem_cons.mp q).elim hne a, b⟩
theorem chkT_len {t : Tgt} {tg : Expr} (hc : chkT nm vm t tg = true) : (tgtNames tg).length = (tgtSlots t).length := by
  cases t with
  | one i => obtain ⟨x, p, rfl⟩ := fmName hc; rfl
  | many is =>
    obtain ⟨es, ctx, p, rfl⟩ := fmTup hc
    have key : ∀ (is : List Nat) (es : List Expr), chkNames nm vm is es = true → (namesOf es).length = is.length := by
      intro is
      induction is with
      | nil => intro es h; rw [chkNames_nil h]; rfl
      | cons i is ih =>
        intro es h
        obtain ⟨x, p, es', rfl, _, _, h3⟩ := chkNames_cons h
        show (namesOf es').length + 1 = is.length + 1
        rw [ih es' h3]
    exact key is es hc

structure CompOK (nm : NM) (vm : VM) (tg : Expr) (sc : Scope) : Prop where
  kind : sc.kind = .function
  nodup : (sc.names.map (·.1)).Nodup
  loc : ∀ n, (n, NameKind.local) ∈ sc.names → (n = (".0" : Str) ∧ vm.lookup n = none) ∨ n ∈ tgtNames tg
  free : ∀ n, (n, NameKind.free) ∈ sc.names → n ∉ tgtNames tg ∧ (∃ i, vm.lookup n = some i) ∧ isCellK (nm.lookup n) = true
  cell : ∀ x ∈ sc.names, x.2 ≠ .cell
theorem compOK_of {tg : Expr} {sc : Scope} (h : compScopeOk nm vm tg sc = true) : CompOK nm vm tg sc := by
  obtain ⟨h12, h3⟩ := and2 h
  obtain ⟨h1, h2⟩ := and2 h12
  have h3 := List.all_eq_true.mp h3
  refine ⟨by simpa using h1, of_decide_eq_true h2, fun n hn => ?_, fun n hn => ?_, fun x hx => ?_⟩
  · have := h3 _ hn
    simp only [Bool.or_eq_true, Bool.and_eq_true, beq_iff_eq, Option.isNone_iff_eq_none, List.contains_iff_mem] at this
    exact this
  · have := h3 _ hn
    simp only [Bool.or_eq_true, Bool.and_eq_true, beq_iff_eq, Bool.not_eq_true', Option.isSome_iff_exists] at this
    obtain ⟨⟨a1, a2⟩, a3⟩ := this
    refine ⟨fun q => ?_, a2, ?_⟩
    · have := List.contains_iff_mem.mpr q; rw [a1] at this; cases this
    · rcases a3 with e | e <;> rw [e] <;> rfl
  · have := h3 _ hx
    intro q
    obtain ⟨n, k⟩ := x
    dsimp only at q
    subst q
    cases this
theorem CompOK.names {tg : Expr} {sc : Scope} (h : CompOK nm vm tg sc) : ∀ x ∈ sc.names, x.2 = .local → sc.names.lookup x.1 = some .local := by
  intro x hx hl
  obtain ⟨n, k⟩ := x
  dsimp only at hl
  subst hl
  have hn := h.nodup
  generalize sc.names = l at hx hn
  induction l with
  | nil => cases hx
  | cons p r ih =>
    rw [List.map_cons, List.nodup_cons] at hn
    rw [List.lookup_cons]
    rcases List.mem_cons.mp hx with e | e
    · subst e; simp
    · have : (n == p.1) = false := by
        rw [beq_eq_false_iff_ne]; rintro rfl
        exact hn.1 (List.mem_map.mpr ⟨_, e, rfl⟩)
      rw [this]; exact ih e hn.2

theorem FR.freeCells (F : FR C nm vm env ρ g h) {tg : Expr} {sc : Scope} (ok : CompOK nm vm tg sc) : ∀ n, (n, NameKind.free) ∈ sc.names → ∃ c, env.cells.lookup n = some c := fun n hn => by
  obtain ⟨_, ⟨i, hi⟩, h3⟩ := ok.free n hn
  obtain ⟨cc, o, b1, _⟩ := F.cl n i hi h3
  exact ⟨cc, b1⟩

theorem FR.comp (F : FR C nm vm env ρ g h) {tg : Expr} {sc : Scope} {t : Tgt} (ok : CompOK nm vm tg sc) (hnd : ((compVM vm t tg).map (·.2)).Nodup) (hlen : (tgtNames tg).length = (tgtSlots t).length) {L : Addr} {m : Str → Option Value} (hL : h.Ns L m) (hoff : L ∉ g.μ ∧ ¬ g.Φ L) :
    FR C (compNames nm sc.names) (compVM vm t tg) (compEnvC sc (closOf env sc.names []) L env) (kill (tgtSlots t) ρ) g h where
  kind := ok.kind
  names := relabel_names F.kind F.names sc
  glob := F.glob
  blt := F.blt
  inj := fun x y i => lookup_inj hnd
  ns := ⟨m, hL, fun x i v a1 a2 a3 a4 => by
    rw [compNames_lookup] at a2
    obtain ⟨k, k1, k2⟩ := Option.map_eq_some_iff.mp a2
    have k3 : k = .local := by
      split at k2
      · cases k2
      · exact k2
    subst k3
    obtain ⟨q1, q2⟩ := kill_get a3 a4
    rcases zip_lookup _ _ vm x i hlen a1 with ⟨_, b⟩ | ⟨b1, b2⟩
    · exact absurd b q1
    · rcases ok.loc x (lookup_mem_pair k1) with ⟨_, e⟩ | e
      · rw [e] at b2; cases b2
      · exact absurd e b1⟩
  cl := fun x i a1 a2 => by
    rw [compNames_lookup] at a2
    cases hk : sc.names.lookup x with
    | none => rw [hk] at a2; cases a2
    | some k =>
      have hm := lookup_mem_pair hk
      have hkf : k = .free := by
        rw [hk] at a2
        cases k <;> first | rfl | skip
        all_goals first | (exact absurd rfl (ok.cell _ hm)) | (simp [isCellK] at a2)
      subst hkf
      obtain ⟨f1, f2, f3⟩ := ok.free x hm
      rcases zip_lookup _ _ vm x i hlen a1 with ⟨b, _⟩ | ⟨b1, b2⟩
      · exact absurd b f1
      · obtain ⟨cc, o, c1, c2, c3⟩ := F.cl x i b2 f3
        exact ⟨cc, o, closOf_get (F.freeCells ok) hm c1, c2, fun v a3 a4 => c3 v (kill_get a3 a4).2 a4⟩
  offL := hoff
  offC := fun x cc hc => F.offC x cc (closOf_sub _ [] (F.freeCells ok) (fun _ _ q => (nomatch q)) x cc hc)
  cliv := fun x cc hc => F.cliv x cc (closOf_sub _ [] (F.freeCells ok) (fun _ _ q => (nomatch q)) x cc hc)
  apart := fun x y cc h1 h2 => F.apart x y cc (closOf_sub _ [] (F.freeCells ok) (fun _ _ q => (nomatch q)) x cc h1) (closOf_sub _ [] (F.freeCells ok) (fun _ _ q => (nomatch q)) y cc h2)
end Mine

set_option autoImplicit false
set_option backward.match.sparseCases true
set_option linter.unusedVariables false
namespace Mine
open PySem PyProof.Rows PySem.SeqAt

variable {C : Fix} {c : Cx} {σ σ' : AH} {g g' : Cfg} {h h' : Heap} {s s' : Shared} {own : Addr → Prop} {A : Around} {d : Nat} {nm : NM} {vm : VM} {env : Env} {ρ : List PV}
  {Q : Value → Shared → Prop} {E : Value → Shared → Prop}

theorem FR.ext' (F : FR C nm vm env ρ g s.heap) (R : C.Rel σ g s.heap) (e : Ext own g s g' s') (hoff : Off own g) (hL : ¬ own env.locals) (hC : ∀ x cc, env.cells.lookup x = some cc → ¬ own cc) : FR C nm vm env ρ g' s'.heap where
  kind := F.kind
  names := F.names
  glob := F.glob
  blt := F.blt
  inj := F.inj
  ns := by
    refine byC fun hZ => ?_
    obtain ⟨m, h1, h2⟩ := F.ns
    refine hZ ?_; clear hZ
    refine ⟨m, ?_, fun x i v a1 a2 a3 a4 => ?_⟩
    · obtain ⟨o, es, ep, ho, rest⟩ := h1
      exact ⟨o, es, ep, e.keep _ _ ho (.inl F.offL.1) hL, rest⟩
    · obtain ⟨y, b1, b2⟩ := h2 x i v a1 a2 a3 a4
      exact ⟨y, b1, VR_ext R e hoff b2⟩
  cl := fun x i a1 a2 => by
    refine byC fun hZ => ?_
    obtain ⟨cc, o, b1, b2, b3⟩ := F.cl x i a1 a2
    refine hZ ?_; clear hZ
    refine ⟨cc, o, b1, ?_, fun v a3 a4 => ?_⟩
    · obtain ⟨ob, ho, rest⟩ := b2
      exact ⟨ob, e.keep _ _ ho (.inl (F.offC x cc b1).1) (hC x cc b1), rest⟩
    · obtain ⟨y, c1, c2⟩ := b3 v a3 a4
      exact ⟨y, c1, VR_ext R e hoff c2⟩
  offL := by
    obtain ⟨m, h1, _⟩ := F.ns
    obtain ⟨o, ho⟩ := Heap.Ns.live h1
    exact ⟨e.notμ ho F.offL.1, e.notΦ ho F.offL.2⟩
  offC := fun x cc b1 => by
    obtain ⟨o, ob, ho, _⟩ := F.cliv x cc b1
    exact ⟨e.notμ ho (F.offC x cc b1).1, e.notΦ ho (F.offC x cc b1).2⟩
  cliv := fun x cc b1 => by
    obtain ⟨o, ob, ho, rest⟩ := F.cliv x cc b1
    exact ⟨o, ob, e.keep _ _ ho (.inl (F.offC x cc b1).1) (hC x cc b1), rest⟩
  apart := F.apart

theorem Ext.drop (x : Ext noOwn g s g' s') {g2 : Cfg} {s2 : Shared} (y : Ext own g' s' g2 s2) (hn : ∀ a, own a → s.heap.get? a = none) : Ext noOwn g s g2 s2 :=
  let z := x.weaken.trans y
  { z with keep := fun b o e hb _ => z.keep b o e hb fun q => by rw [hn b q] at e; cases e }

theorem compLoop_gen {R : Result → Shared → Prop} {elt target iter : Expr} {ifs : List Expr} {scope : Scope} {pos : Pos} {it acc : Value} {env : Env} (I : Nat → Shared → Prop)
    (turn : ∀ n s, I n s → wpAny (model C.prog C.w) A (pyNext it) (fun r s₁ => match r with
      | none => R (.ok .next) s₁
      | some v => wpAny (model C.prog C.w) A (letOwnedTupleGo target it v) (fun _ s₁' => wpAny (model C.prog C.w) A (assign target env v) (fun _ s₂ =>
          wpAny (model C.prog C.w) A (forIn ifs true fun c r => if r = true then do let ok ← isTrue c env (eval c env); pure (ForInStep.yield ok) else pure (ForInStep.yield r)) (fun ok s₃ =>
            if ok = true then wpAny (model C.prog C.w) A (eval elt env) (fun x s₄ =>
              wpAny (model C.prog C.w) A (call (.builtin "list.append") [acc, x]) (fun _ s₅ => ∃ m, m < n ∧ I m s₅) (notedBy (model C.prog C.w) A env fun e s' => R (.error e) s') s₄) (notedBy (model C.prog C.w) A env fun e s' => R (.error e) s') s₃
            else ∃ m, m < n ∧ I m s₃) (notedBy (model C.prog C.w) A env fun e s' => R (.error e) s') s₂) (notedBy (model C.prog C.w) A env fun e s' => R (.error e) s') s₁') (notedBy (model C.prog C.w) A env fun e s' => R (.error e) s') s₁) (notedBy (model C.prog C.w) A env fun e s' => R (.error e) s') s)
    (n : Nat) (h : I n s) :
    codeAny (model C.prog C.w) A (.compLoop (.ListComp elt [⟨target, iter, ifs, 0⟩] scope pos) 0 it acc env) R s := by
  refine codeAny_loop rfl I (fun n s hI => ?_) n h
  show wpAny _ A ((compTurn (.ListComp elt [⟨target, iter, ifs, 0⟩] scope pos) 0 it acc env).onRaise (fun x => do noteFrame x env; theTreesLotGoes x)) _ _ s
  refine wpAny_noted ?_
  rw [compTurn_list]
  refine wpAny_bind (wpAny_standAt (wpAny_bind (wpAny_mono (turn n s hI) (fun r s₁ h₁ => ?_) fun _ _ h' => h')))
  cases r with
  | none => exact wpAny_pure h₁
  | some v =>
    refine wpAny_bind (wpAny_mono h₁ (fun _ s₁' h₁' => ?_) fun _ _ h' => h')
    refine wpAny_bind (wpAny_mono h₁' (fun _ s₂ h₂ => wpAny_bind (wpAny_mono h₂ (fun ok s₃ h₃ => ?_) fun _ _ h' => h')) fun _ _ h' => h')
    cases ok with
    | false => exact wpAny_pure ⟨rfl, h₃⟩
    | true =>
      exact wpAny_bind (wpAny_bind (wpAny_mono h₃ (fun x s₄ h₄ => wpAny_bind (wpAny_mono h₄ (fun _ s₅ h₅ => wpAny_pure (wpAny_pure ⟨rfl, h₅⟩)) fun _ _ h' => h')) fun _ _ h' => h'))

/-- the loop's state -/
structure CS (C : Fix) (L D I : Addr) (fp : List Addr) (St : Nat → Heap → Prop) (nm : NM) (vm : VM) (env : Env) (ρ : List PV) (i : Nat) (done : List PV) (σ : AH) (g : Cfg) (s : Shared) : Prop where
  rel : C.Rel σ g s.heap
  fr : FR C nm vm env ρ g s.heap
  st : St i s.heap
  acc : ∃ ws, IsListX s.heap D ws ∧ C.VRs g s.heap done ws.toList
  offI : I ∉ g.μ ∧ ¬ g.Φ I
  offD : D ∉ g.μ ∧ ¬ g.Φ D
  liveI : ∃ o, s.heap.get? I = some o
  keep : ∀ b ∈ fp, (b ∉ g.μ ∨ g.lk b) ∧ ∃ o, s.heap.get? b = some o

structure CF (L D I : Addr) (fp : List Addr) (env : Env) : Prop where
  hL : env.locals = L
  LI : L ≠ I
  LD : L ≠ D
  DI : D ≠ I
  fpL : L ∉ fp
  fpD : D ∉ fp
  cI : ∀ x cc, env.cells.lookup x = some cc → cc ≠ I ∧ cc ≠ D ∧ cc ≠ L

variable {L D I : Addr} {fp : List Addr} {St : Nat → Heap → Prop} {i n : Nat} {done : List PV} {P : Nat → Value → Prop}

theorem CS.eval (x : CS C L D I fp St nm vm env ρ i done σ g s) (W : Walks C.prog C.w A I fp [I] n P St) (e : Ext noOwn g s g' s') (R' : C.Rel σ' g' s'.heap) : CS C L D I fp St nm vm env ρ i done σ' g' s' where
  rel := R'
  fr := x.fr.ext x.rel e
  st := W.frame _ _ _ x.st fun b hb o ho => e.keep b o ho (x.keep b hb).1 (fun q => q)
  acc := by
    obtain ⟨ws, ⟨n, e1⟩, e2⟩ := x.acc
    exact ⟨ws, ⟨n, e.keep _ _ e1 (.inl x.offD.1) (fun q => q)⟩, VRs_ext x.rel e Off.none e2⟩
  offI := by obtain ⟨o, ho⟩ := x.liveI; exact ⟨e.notμ ho x.offI.1, e.notΦ ho x.offI.2⟩
  offD := by obtain ⟨ws, ⟨n, ho⟩, _⟩ := x.acc; exact ⟨e.notμ ho x.offD.1, e.notΦ ho x.offD.2⟩
  liveI := by obtain ⟨o, ho⟩ := x.liveI; exact ⟨o, e.keep _ _ ho (.inl x.offI.1) (fun q => q)⟩
  keep := fun b hb => by
    obtain ⟨k1, o, ho⟩ := x.keep b hb
    exact ⟨k1.imp (e.notμ ho) fun q => by rw [e.lock]; exact q, o, e.keep b o ho k1 (fun q => q)⟩

/-- the iterator moved -/
theorem CS.next (F0 : CF L D I fp env) (x : CS C L D I fp St nm vm env ρ i done σ g s) {h' : Heap} {tk j : Nat} (hk : ∀ b o, b ∉ [I] → s.heap.get? b = some o → h'.get? b = some o) (hst : St j h') (hI : ∃ o, h'.get? I = some o) :
    CS C L D I fp St nm vm env ρ j done σ g { s with heap := h', toks := tk } ∧ Ext (· = I) g s g { s with heap := h', toks := tk } := by
  have hk' : ∀ b o, b ≠ I → s.heap.get? b = some o → h'.get? b = some o := fun b o hb e => hk b o (by simpa using hb) e
  have e : Ext (· = I) g s g { s with heap := h', toks := tk } := Ext.heap (fun b o e _ hb => hk' b o hb e) fun b hb => by
    by_cases hbI : b = I
    · subst hbI; obtain ⟨o, ho⟩ := hI; exact isSome_of ho
    · obtain ⟨o, ho⟩ := Option.isSome_iff_exists.mp hb; exact isSome_of (hk' b o hbI ho)
  have hoff : Off (· = I) g := fun b hb => by subst hb; exact x.offI
  have kept : Kept g s.heap h' := .of_but hk' x.offI
  refine ⟨⟨x.rel.kept kept, x.fr.ext' x.rel e hoff (fun q => F0.LI (F0.hL ▸ q)) (fun y cc hc q => (F0.cI y cc hc).1 q), hst, ?_, x.offI, x.offD, hI, fun b hb => ⟨(x.keep b hb).1, ?_⟩⟩, e⟩
  · obtain ⟨ws, ⟨n, e1⟩, e2⟩ := x.acc
    exact ⟨ws, ⟨n, hk' _ _ F0.DI e1⟩, VRs_kept (C := C) kept e2⟩
  · by_cases hbI : b = I
    · subst hbI; exact hI
    · obtain ⟨o, ho⟩ := (x.keep b hb).2; exact ⟨o, hk' b o hbI ho⟩

/-- the frame's own variables stored -/
theorem CS.store (F0 : CF L D I fp env) (x : CS C L D I fp St nm vm env ρ i done σ g s) (W : Walks C.prog C.w A I fp [I] n P St) {ρ' : List PV} (e : Ext (· = L) g s g s') (F' : FR C nm vm env ρ' g s'.heap) (R' : C.Rel σ g s'.heap) :
    CS C L D I fp St nm vm env ρ' i done σ g s' := by
  have hk' : ∀ b o, b ∉ g.μ ∨ g.lk b → b ≠ L → s.heap.get? b = some o → s'.heap.get? b = some o := fun b o h1 hb ho => e.keep b o ho h1 hb
  have hoff : Off (· = L) g := fun b hb => by subst hb; exact F0.hL ▸ x.fr.offL
  refine ⟨R', F', W.frame _ _ _ x.st fun b hb o ho => hk' b o (x.keep b hb).1 (fun q => F0.fpL (q ▸ hb)) ho, ?_, x.offI, x.offD, ?_, fun b hb => ⟨(x.keep b hb).1, ?_⟩⟩
  · obtain ⟨ws, ⟨n, e1⟩, e2⟩ := x.acc
    exact ⟨ws, ⟨n, hk' _ _ (.inl x.offD.1) (Ne.symm F0.LD) e1⟩, VRs_ext x.rel e hoff e2⟩
  · obtain ⟨o, ho⟩ := x.liveI; exact ⟨o, hk' _ _ (.inl x.offI.1) (Ne.symm F0.LI) ho⟩
  · obtain ⟨o, ho⟩ := (x.keep b hb).2; exact ⟨o, hk' b o (x.keep b hb).1 (fun q => F0.fpL (q ▸ hb)) ho⟩

/-- one more -/
theorem CS.push (F0 : CF L D I fp env) (x : CS C L D I fp St nm vm env ρ i done σ g s) (W : Walks C.prog C.w A I fp [I] n P St) {u : PV} {y : Value} (hy : C.VR g s.heap u y) (hd : done.length ≤ 1000000)
    (hq : ∀ h', CS C L D I fp St nm vm env ρ i (done ++ [u]) σ g { s with heap := h' } → Ext (· = D) g s g { s with heap := h' } → Q .none { s with heap := h' }) :
    wpAny (model C.prog C.w) A (call (.builtin "list.append") [.ref D, y]) Q E s := by
  refine byC fun hZ => ?_
  obtain ⟨ws, ⟨n, e1⟩, e2⟩ := x.acc
  refine hZ ?_; clear hZ
  have hsz := e2.size
  refine wpAny_list_append_plain ⟨n, e1⟩ (fun h' hx' hsb => ?_) (by rw [hsz, sizeLine_eq]; exact om250 hd)
  obtain ⟨n', hx'⟩ := hx'
  have hk' : ∀ b o, b ≠ D → s.heap.get? b = some o → h'.get? b = some o := fun b o hb e => by rw [hsb.2 b hb]; exact e
  have e : Ext (· = D) g s g { s with heap := h' } := Ext.heap (tk := s.toks) (fun b o e _ hb => hk' b o hb e) fun b hb => by
    by_cases hbI : b = D
    · subst hbI; exact isSome_of hx'
    · obtain ⟨o, ho⟩ := Option.isSome_iff_exists.mp hb; exact isSome_of (hk' b o hbI ho)
  have hoff : Off (· = D) g := fun b hb => by subst hb; exact x.offD
  have kept : Kept g s.heap h' := .of_but hk' x.offD
  refine hq h' ⟨x.rel.kept kept, x.fr.ext' x.rel e hoff (fun q => F0.LD (F0.hL ▸ q)) (fun y cc hc q => (F0.cI y cc hc).2.1 q), W.frame _ _ _ x.st fun b hb o ho => hk' b o (fun q => F0.fpD (q ▸ hb)) ho, ⟨_, ⟨n', hx'⟩, ?_⟩, x.offI, x.offD, ?_, fun b hb => ⟨(x.keep b hb).1, ?_⟩⟩ e
  · rw [Array.toList_push]
    exact (VRs_kept (C := C) kept e2).append (.cons (VR_kept (C := C) kept hy) .nil)
  · obtain ⟨o, ho⟩ := x.liveI; exact ⟨o, hk' _ _ (Ne.symm F0.DI) ho⟩
  · obtain ⟨o, ho⟩ := (x.keep b hb).2; exact ⟨o, hk' b o (fun q => F0.fpD (q ▸ hb)) ho⟩

theorem CS.sub {ρ0 : List PV} (x : CS C L D I fp St nm vm env ρ i done σ g s) (hs : ∀ (i : Nat) v, ρ0[i]? = some v → v ≠ .undef → ρ[i]? = some v) : CS C L D I fp St nm vm env ρ0 i done σ g s :=
  ⟨x.rel, x.fr.sub hs, x.st, x.acc, x.offI, x.offD, x.liveI, x.keep⟩

theorem Ext.after (x : Ext noOwn g s g' s') {tk : Nat} (hk : ∀ b o, b ≠ I → s'.heap.get? b = some o → h'.get? b = some o) (hI : s.heap.get? I = none) : Ext noOwn g s g' { s' with heap := h', toks := tk } :=
  ⟨x.pre, x.sub, x.newμ, x.newΦ, x.lock, fun b o e q1 q2 => hk b o (fun q => by rw [q, hI] at e; cases e) (x.keep b o e q1 q2), fun b hb => by
    obtain ⟨o, ho⟩ := Option.isSome_iff_exists.mp (x.live b hb)
    exact isSome_of (hk b o (fun q => by rw [q, hI] at hb; cases hb) ho), x.gens, x.os⟩

noncomputable def own3 (L D I : Addr) : Addr → Prop := fun b => b = I ∨ b = D ∨ b = L

theorem compL_cons {cond elt : List PV → AH → Res PV} {t : Tgt} {x : PV} {xs : List PV} {r : List PV} (h : compL cond elt t ρ (x :: xs) σ = .ok r σ') : ∃ ρ1 b σ1 q, bindT t x ρ = some ρ1 ∧ cond ρ1 σ = .ok b σ1 ∧ truth σ1 b = some q ∧
    ((q = true ∧ ∃ v σ2 rest, elt ρ1 σ1 = .ok v σ2 ∧ compL cond elt t ρ xs σ2 = .ok rest σ' ∧ r = v :: rest) ∨ (q = false ∧ compL cond elt t ρ xs σ1 = .ok r σ')) := by
  rw [compL] at h
  cases hb : bindT t x ρ with
  | none => rw [hb] at h; cases h
  | some ρ1 =>
    rw [hb] at h
    simp only at h
    cases hc : cond ρ1 σ with
    | exc => rw [hc] at h; cases h
    | bad => rw [hc] at h; cases h
    | ok b σ1 =>
      rw [hc] at h
      simp only [Res.bind] at h
      cases ht : truth σ1 b with
      | none => rw [ht] at h; cases h
      | some q =>
        rw [ht] at h
        cases q with
        | false => exact ⟨ρ1, b, σ1, false, rfl, hc, ht, .inr ⟨rfl, h⟩⟩
        | true =>
          simp only at h
          cases he : elt ρ1 σ1 with
          | exc => rw [he] at h; cases h
          | bad => rw [he] at h; cases h
          | ok v σ2 =>
            rw [he] at h
            simp only [Res.bind] at h
            cases hr : compL cond elt t ρ xs σ2 with
            | exc => rw [hr] at h; cases h
            | bad => rw [hr] at h; cases h
            | ok rest σ3 =>
              rw [hr] at h
              replace h := ok_inj h
              obtain ⟨rfl, rfl⟩ := h
              exact ⟨ρ1, b, σ1, true, rfl, hc, ht, .inl ⟨rfl, v, σ2, rest, he, hr, rfl⟩⟩

theorem chkT_list {t : Tgt} {tg : Expr} (hc : chkT nm vm t tg = true) : ∀ es p, tg ≠ .List es p := by
  rintro es p rfl
  cases t <;> exact absurd (show false = true from hc) Bool.false_ne_true

theorem isTT_eq {cond : PE} (h : isTT cond = true) : cond = .const (.bool true) := by
  cases cond <;> try cases h
  rename_i k
  cases k <;> try cases h
  rename_i b
  cases b <;> first | rfl | cases h

theorem comp_loop {elt cond : PE} {m : Nat} {t : Tgt} {e' tg iter : Expr} {ifs : List Expr} {sc : Scope} {pos : Pos} {l vs : List PV} {gs : Cfg} {ss : Shared} {σs σE : AH} {R : Result → Shared → Prop}
    (hE : SndE C c d elt) (hT : SndT C c d cond) (hA : AOK A d) (F0 : CF L D I fp env) (W : Walks C.prog C.w A I fp [I] l.length P St) (hpl : ∀ i h, St i h → PlainIter h I)
    (hcE : chkE elt nm vm e' = true) (hcC : ifsOk (isTT cond) (chkE cond nm vm) ifs = true) (hcT : chkT nm vm t tg = true)
    (hcell : ∀ x ∈ tgtNames tg, nm.lookup x ≠ some .cell)
    (hρ : ∀ (i : Nat) v, ρ[i]? = some v → v ≠ .undef → i ∉ tgtSlots t)
    (Rs : C.Rel σs gs ss.heap) (hP : ∀ i z u, P i z → l[i]? = some u → C.VR gs ss.heap u z) (hoff : Off (own3 L D I) gs) (hlen : vs.length ≤ 1000000)
    (hR : ∀ gn sn h' tk, C.Rel σE gn h' → FR C nm vm env ρ gn h' → (∃ ws, IsListX h' D ws ∧ C.VRs gn h' vs ws.toList) → (D ∉ gn.μ ∧ ¬ gn.Φ D) → Ext (own3 L D I) gs ss gn sn → (∀ b o, b ≠ I → sn.heap.get? b = some o → h'.get? b = some o) → R (.ok .next) { sn with heap := h', toks := tk }) :
    ∀ (k i : Nat) (gi : Cfg) (si : Shared) (σi : AH) (done rest : List PV), i ≤ l.length → k = l.length - i → CS C L D I fp St nm vm env ρ i done σi gi si → Ext (own3 L D I) gs ss gi si → compL (ev c cond 0) (ev c elt m) t ρ (l.drop i) σi = .ok rest σE → done ++ rest = vs →
      codeAny (model C.prog C.w) A (.compLoop (.ListComp e' [⟨tg, iter, ifs, 0⟩] sc pos) 0 (.ref I) (.ref D) env) R si := by
  intro k i gi si σi done rest hi hk X0 E0 hrun hvs
  refine compLoop_gen (fun k s' => ∃ i gi σi done rest, i ≤ l.length ∧ k = l.length - i ∧ CS C L D I fp St nm vm env ρ i done σi gi s' ∧ Ext (own3 L D I) gs ss gi s' ∧ compL (ev c cond 0) (ev c elt m) t ρ (l.drop i) σi = .ok rest σE ∧ done ++ rest = vs) ?_ k ⟨i, gi, σi, done, rest, hi, hk, X0, E0, hrun, hvs⟩
  clear hrun hvs E0 X0 hk hi
  intro k s' H
  refine byC fun hZ => ?_
  obtain ⟨i, gi, σi, done, rest, hi, rfl, X, E0, hrun, hvs⟩ := H
  refine hZ ?_; clear hZ
  by_cases hin : i = l.length
  · subst hin
    rw [List.drop_length, compL] at hrun
    replace hrun := ok_inj hrun
    obtain ⟨rfl, rfl⟩ := hrun
    rw [List.append_nil] at hvs
    subst hvs
    refine W.done s' _ _ X.st fun h' tk hk => ?_
    have hk' : ∀ b o, b ≠ I → s'.heap.get? b = some o → h'.get? b = some o := fun b o hb e => hk b o (by simpa using hb) e
    have kept : Kept gi s'.heap h' := .of_but hk' X.offI
    have hfr : FR C nm vm env ρ gi h' := by
      refine byC fun hZ => ?_
      obtain ⟨m', n1, n2⟩ := X.fr.ns
      refine hZ ?_; clear hZ
      refine ⟨X.fr.kind, X.fr.names, X.fr.glob, X.fr.blt, X.fr.inj, ⟨m', ?_, fun x i v a1 a2 a3 a4 => ?_⟩, fun x i a1 a2 => ?_, X.fr.offL, X.fr.offC, fun x cc b1 => ?_, X.fr.apart⟩
      · obtain ⟨o, es, ep, ho, r⟩ := n1
        exact ⟨o, es, ep, hk' _ _ (F0.hL ▸ F0.LI) ho, r⟩
      · obtain ⟨y, b1, b2⟩ := n2 x i v a1 a2 a3 a4; exact ⟨y, b1, VR_kept (C := C) kept b2⟩
      · refine byC fun hZ => ?_
        obtain ⟨cc, o, b1, ⟨ob, b2, b2'⟩, b3⟩ := X.fr.cl x i a1 a2
        refine hZ ?_; clear hZ
        exact ⟨cc, o, b1, ⟨ob, hk' _ _ (F0.cI x cc b1).1 b2, b2'⟩, fun v a3 a4 => let ⟨y, c1, c2⟩ := b3 v a3 a4; ⟨y, c1, VR_kept (C := C) kept c2⟩⟩
      · obtain ⟨o, ob, b2, b2'⟩ := X.fr.cliv x cc b1
        exact ⟨o, ob, hk' _ _ (F0.cI x cc b1).1 b2, b2'⟩
    obtain ⟨ws, ⟨n, e1⟩, e2⟩ := X.acc
    exact hR gi s' h' tk (X.rel.kept kept) hfr ⟨ws, ⟨n, hk' _ _ F0.DI e1⟩, VRs_kept (C := C) kept e2⟩ X.offD E0 hk'
  · have hlt : i < l.length := Nat.lt_of_le_of_ne hi hin
    have hdrop : l.drop i = l[i] :: l.drop (i + 1) := List.drop_eq_getElem_cons hlt
    rw [hdrop] at hrun
    refine byC fun hZ => ?_
    obtain ⟨ρ1, b, σ1, q, hb, hc1, hc2, hc3⟩ := compL_cons hrun
    refine hZ ?_; clear hZ
    refine W.item i s' _ _ hlt X.st fun z h' tk hz hst hk => ?_
    refine byC fun hZ => ?_
    obtain ⟨ob, nI, q1, q2, q3⟩ := hpl (i + 1) h' hst
    obtain ⟨X1, e1⟩ := X.next F0 (tk := tk) hk hst ⟨ob, q1⟩
    refine hZ ?_; clear hZ
    refine owned_go (.inl ⟨ob, nI, q1, q2, q3⟩) (chkT_list hcT) ?_
    have sub1 : ∀ {own' : Addr → Prop} {g s g' s'}, (∀ a, own' a → own3 L D I a) → Ext own' g s g' s' → Ext (own3 L D I) g s g' s' := fun h e => e.mono h
    have E1 := E0.trans (e1.mono fun a ha => .inl ha)
    have hv : C.VR gi h' l[i] z := VR_ext Rs E1 hoff (hP i z _ hz (by simp [hlt]))
    have hoffL : Off (· = L) gi := fun b hb => by subst hb; exact F0.hL ▸ X1.fr.offL
    refine assign_sound (own := (· = L)) hA.hand hoffL F0.hL hcT X1.fr X1.rel hv (fun x hx hc => absurd hc (hcell x hx)) hb fun s2 F2 R2 e2 => ?_
    have X2 := X1.store F0 W e2 F2 R2
    have E2 := E1.trans (e2.mono fun a ha => .inr (.inr ha))
    have back : ∀ (j : Nat) v, ρ[j]? = some v → v ≠ .undef → ρ1[j]? = some v := fun j v h1 h2 => by rw [bindT_keep hb (hρ j v h1 h2)]; exact h1
    have tests : ∀ (Q' : Bool → Shared → Prop) (E' : Value → Shared → Prop), (∀ g3 s3, Ext noOwn gi s2 g3 s3 → C.Rel σ1 g3 s3.heap → Q' q s3) → wpAny (model C.prog C.w) A (forIn ifs true fun c r => if r = true then do let ok ← isTrue c env (eval c env); pure (ForInStep.yield ok) else pure (ForInStep.yield r)) Q' E' s2 := by
      intro Q' E' hQ'
      rcases ifs with _ | ⟨e2', _ | ⟨e3', r3⟩⟩
      · have hco : cond = .const (.bool true) := isTT_eq hcC
        subst hco
        replace hc1 := ok_inj hc1
        obtain ⟨rfl, rfl⟩ := hc1
        cases hc2
        exact wpAny_tests_nil (hQ' gi s2 (Ext.refl _ _) R2)
      · exact wpAny_tests_one (hT nm vm e2' env ρ1 σi gi s2 A _ _ hcC F2 R2 hA (PostT.mk hc1 hc2 hQ'))
      · cases hcC
    refine tests _ _ fun g3 s3 e3 R3 => ?_
    have X3 := X2.eval W e3 R3
    have E3 := E2.trans e3.weaken
    rcases hc3 with ⟨rfl, v, σ2, rest', hv1, hv2, rfl⟩ | ⟨rfl, hv2⟩
    · simp only [if_true]
      refine hE nm vm e' env m ρ1 σ1 g3 s3 A _ _ hcE X3.fr R3 hA (PostE.mk hv1 fun g4 s4 y e4 R4 v4 => ?_)
      have X4 := X3.eval W e4 R4
      have E4 := E3.trans e4.weaken
      have hdl : done.length ≤ 1000000 := by rw [← hvs] at hlen; simp at hlen; exact om7 hlen
      refine X4.push F0 W v4 hdl fun h5 X5 e5 => ?_
      refine ⟨l.length - (i + 1), by exact om304 hlt, i + 1, g4, σ2, done ++ [v], rest', by exact om32 hlt, rfl, X5.sub back, E4.trans (e5.mono fun a ha => .inr (.inl ha)), hv2, by simpa using hvs⟩
    · simp only [Bool.false_eq_true, if_false]
      exact ⟨l.length - (i + 1), by exact om304 hlt, i + 1, g3, σ1, done, rest, by exact om32 hlt, rfl, X3.sub back, E3, hv2, hvs⟩
end Mine

set_option autoImplicit false
set_option backward.match.sparseCases true
set_option linter.unusedVariables false
namespace Mine
open PySem PyProof.Rows PySem.SeqAt

variable {C : Fix} {c : Cx} {σ σ' : AH} {g g' : Cfg} {h h' : Heap} {s s' : Shared} {own : Addr → Prop} {A : Around} {d : Nat} {nm : NM} {vm : VM} {env : Env} {ρ : List PV}
  {Q : Value → Shared → Prop} {E : Value → Shared → Prop}

theorem comp_chk {elt it cond : PE} {t : Tgt} {e : Expr} (hc : chkE (.comp elt t it cond) nm vm e = true) : ∃ e' tg it' ifs sc pos, e = .ListComp e' [⟨tg, it', ifs, 0⟩] sc pos ∧ chkE it nm vm it' = true ∧ CompOK nm vm tg sc ∧ ((compVM vm t tg).map (·.2)).Nodup ∧
    chkT (compNames nm sc.names) (compVM vm t tg) t tg = true ∧ chkE elt (compNames nm sc.names) (compVM vm t tg) e' = true ∧ ifsOk (isTT cond) (chkE cond (compNames nm sc.names) (compVM vm t tg)) ifs = true := by
  refine byC fun hZ => ?_
  obtain ⟨e', gens, sc, pos, rfl⟩ := fmComp hc
  refine hZ ?_; clear hZ
  rcases gens with _ | ⟨⟨tg, it', ifs, ia⟩, _ | ⟨g2, gs⟩⟩
  · exact absurd (show false = true from hc) Bool.false_ne_true
  · skip
    refine byC fun hZ => ?_
    obtain ⟨h123456, h7⟩ := and2 hc
    obtain ⟨h12345, h6⟩ := and2 h123456
    obtain ⟨h1234, h5⟩ := and2 h12345
    obtain ⟨h123, h4⟩ := and2 h1234
    obtain ⟨h12, h3⟩ := and2 h123
    obtain ⟨h1, h2⟩ := and2 h12
    refine hZ ?_; clear hZ
    have h1 := of_decide_eq_true h1
    subst h1
    exact ⟨e', tg, it', ifs, sc, pos, rfl, h2, compOK_of h3, of_decide_eq_true h4, h5, h6, h7⟩
  · exact absurd (show false = true from hc) Bool.false_ne_true

/-- what stands behind the loop -/
structure CompEnd (C : Fix) (g : Cfg) (s : Shared) (σ' : AH) (vs : List PV) (D L : Addr) (g' : Cfg) (s' : Shared) : Prop where
  ext : Ext noOwn g s g' s'
  rel : C.Rel σ' g' s'.heap
  newD : s.heap.get? D = none
  offD : D ∉ g'.μ ∧ ¬ g'.Φ D
  acc : ∃ ws, IsListX s'.heap D ws ∧ C.VRs g' s'.heap vs ws.toList
  ns : ∃ m, s'.heap.Ns L m
  newL : s.heap.get? L = none
  offL : L ∉ g'.μ ∧ ¬ g'.Φ L
  LD : L ≠ D

theorem CompEnd.letGo {σ' : AH} {vs : List PV} {D L : Addr} (x : CompEnd C g s σ' vs D L g' s') {h' : Heap} (hs : Heap.SameBut L s'.heap h') :
    Ext noOwn g s g' { s' with heap := h' } ∧ C.Rel σ' g' h' ∧ FrsR C g' h' (.list vs) D := by
  have hk' : ∀ b o, b ≠ L → s'.heap.get? b = some o → h'.get? b = some o := fun b o hb e => by rw [hs.2 b hb]; exact e
  have kept : Kept g' s'.heap h' := .of_but hk' x.offL
  obtain ⟨ws, ⟨n, e1⟩, e2⟩ := x.acc
  exact ⟨x.ext.after (tk := s'.toks) hk' x.newL, x.rel.kept kept, ws, ⟨n, hk' _ _ (Ne.symm x.LD) e1⟩, VRs_kept (C := C) kept e2⟩

theorem get?_le {h : Heap} {a : Addr} (ha : h.objs.size ≤ a) : h.get? a = none := by
  cases hq : h.get? a with
  | none => rfl
  | some o => exact absurd (Heap.lt_size hq) (Nat.not_lt.mpr ha)

theorem ne_add {b I : Nat} (h : b < I) (k : Nat) : b ≠ I + k := by exact om312 h
theorem add_ne (I : Nat) {j k : Nat} (h : j ≠ k) : I + j ≠ I + k := by exact om311 h
theorem self_ne (I : Nat) {k : Nat} (h : k ≠ 0) : I ≠ I + k := by exact om310 h
theorem not_between {b I : Nat} (h : b = I ∨ b < I) (k : Nat) (hk : k ≠ 0) : b ≠ I + k := by exact om309 h hk

theorem comp_enter {elt it cond : PE} {m : Nat} {t : Tgt} {e' tg it' : Expr} {ifs : List Expr} {sc : Scope} {pos : Pos} {v : PV} {σ1 σ2 : AH} {l vs : List PV} {RR : Value → Addr → Result → Shared → Prop}
    (hI : SndE C c d it) (hE : SndE C c d elt) (hT : SndT C c d cond) (hA : AOK A d) (F : FR C nm vm env ρ g s.heap) (R : C.Rel σ g s.heap)
    (hcI : chkE it nm vm it' = true) (ok : CompOK nm vm tg sc) (hnd : ((compVM vm t tg).map (·.2)).Nodup) (hcT : chkT (compNames nm sc.names) (compVM vm t tg) t tg = true) (hcE : chkE elt (compNames nm sc.names) (compVM vm t tg) e' = true)
    (hcC : ifsOk (isTT cond) (chkE cond (compNames nm sc.names) (compVM vm t tg)) ifs = true)
    (r1 : ev c it 0 ρ σ = .ok v σ1) (hi : items σ1 v = some l) (r2 : compL (ev c cond 0) (ev c elt m) t (kill (tgtSlots t) ρ) l (lockV σ1 v true) = .ok vs σ2) (hlen : vs.length ≤ 1000000)
    (hRR : ∀ D L g' s', CompEnd C g s (lockV σ2 v (lkV σ1 v)) vs D L g' s' → RR (.ref D) L (.ok .next) s') :
    wpAny (model C.prog C.w) A (eval it' env) (fun x s₁ => wpAny (model C.prog C.w) A (pyIter x) (fun it s₂ => wpAny (model C.prog C.w) A (newList []) (fun acc s₃ =>
      wpAny (model C.prog C.w) A (newFunctionEnv sc env.globals (closOf env sc.names []) [] env.qual none .none (some env)) (fun cenv s₄ =>
        codeAny (model C.prog C.w) A (.compStart (.ListComp e' [⟨tg, it', ifs, 0⟩] sc pos) 0 it acc { cenv with scope := relabel sc env }) (RR acc cenv.locals) s₄) E s₃) E s₂) E s₁) E s := by
  have hTlen := chkT_len hcT
  refine hI nm vm it' env 0 ρ σ g s A _ _ hcI F R hA (PostE.mk r1 fun g1 s1 x e1 R1 v1 => ?_)
  have F1 := F.ext R e1
  refine pyIter_sound hA.hand R1 v1 hi fun o fp P St W st hfp hP hpl => ?_
  refine wpAny_newList ?_ (by simp)
  generalize hI0 : s1.heap.objs.size = I at *
  have hs2 : (s1.heap.push o).objs.size = I + 1 := by rw [Heap.size_push, hI0]
  show wpAny _ _ _ _ _ { s1 with heap := (s1.heap.push o).push { cls := .type "list", data := .seq ([] : List Value).toArray } }
  refine wpAny_newFunctionEnv ok.cell (by intro y hy; simp at hy) (fun h4 hns hsb => ?_) ok.kind
  have hs3 : ((s1.heap.push o).push { cls := .type "list", data := .seq ([] : List Value).toArray }).objs.size = I + 2 := by rw [Heap.size_push, hs2]
  simp only [hs2, hs3] at hns hsb ⊢
  have k1 : ∀ b ob, s1.heap.get? b = some ob → h4.get? b = some ob := fun b ob e => by
    have hlt := Heap.lt_size e
    rw [hI0] at hlt
    rw [hsb.2 b (ne_add hlt 2)]
    exact Heap.get?_push_of_some _ (Heap.get?_push_of_some _ (Heap.get?_push_of_some _ e))
  have hD4 : h4.get? (I + 1) = some { cls := .type "list", data := .seq #[] } := by
    rw [hsb.2 _ (add_ne I (by decide))]
    refine Heap.get?_push_of_some _ ?_
    rw [← hs2]; exact Heap.get?_push_size _ rfl
  have hI4 : ∀ ob, (s1.heap.push o).get? I = some ob → h4.get? I = some ob := fun ob e => by
    rw [hsb.2 _ (self_ne I (by decide))]
    exact Heap.get?_push_of_some _ (Heap.get?_push_of_some _ e)
  have offI : I ∉ g1.μ ∧ ¬ g1.Φ I := R1.fresh (hI0 ▸ get?_size _)
  have offD : I + 1 ∉ g1.μ ∧ ¬ g1.Φ (I + 1) := R1.fresh (get?_le (by exact om308 hI0))
  have offL : I + 2 ∉ g1.μ ∧ ¬ g1.Φ (I + 2) := R1.fresh (get?_le (by exact om307 hI0))
  have kept : Kept g1 s1.heap h4 := .of_all k1
  have R4 : C.Rel σ1 g1 h4 := R1.kept kept
  have RL : C.Rel (lockV σ1 v true) (g1.withLk (lockSet g1 v)) h4 := lock_rel R4 (items_ref hi)
  have F4 : FR C nm vm env ρ (g1.withLk (lockSet g1 v)) h4 := by
    have e : Ext noOwn g1 s1 g1 { s1 with heap := h4 } := Ext.all (tk := s1.toks) k1
    have F4' := F1.ext R1 e
    exact ⟨F4'.kind, F4'.names, F4'.glob, F4'.blt, F4'.inj, let ⟨m, n1, n2⟩ := F4'.ns; ⟨m, n1, fun x i v a1 a2 a3 a4 => let ⟨y, b1, b2⟩ := n2 x i v a1 a2 a3 a4; ⟨y, b1, VR_lk b2⟩⟩,
      fun x i a1 a2 => let ⟨cc, ob, b1, b2, b3⟩ := F4'.cl x i a1 a2; ⟨cc, ob, b1, b2, fun v a3 a4 => let ⟨y, c1, c2⟩ := b3 v a3 a4; ⟨y, c1, VR_lk c2⟩⟩, F4'.offL, F4'.offC, F4'.cliv, F4'.apart⟩
  have FC := F4.comp (t := t) ok hnd hTlen hns offL
  have fpx : ∀ b ∈ fp, b = I ∨ x = .ref b := hfp
  have xlive : ∀ b, x = .ref b → (b ∉ g1.μ ∨ lockSet g1 v b) ∧ ∃ ob, s1.heap.get? b = some ob := by
    rintro b rfl
    have dis : ∀ {a}, g1.Φ a → a ∉ g1.μ := fun hf hm => R1.rel.disj _ hm hf
    cases v1 with
    | tup h0 hl hr => obtain ⟨n, e⟩ := hl; exact ⟨.inl (dis h0), _, e⟩
    | lst h0 hl hr => obtain ⟨n, e⟩ := hl; exact ⟨.inl (dis h0), _, e⟩
    | dct h0 hm hl hr => obtain ⟨ob, _, _, e, _⟩ := hl; exact ⟨.inl (dis h0), _, e⟩
    | rng h0 hl => obtain ⟨_, _, _, _, _, e⟩ := hl; exact ⟨.inl (dis h0), _, e⟩
    | @ref j _ hj =>
      refine ⟨.inr (.inr ⟨j, rfl, hj⟩), ?_⟩
      have hm := List.mem_of_getElem? hj
      cases hq : s1.heap.get? b with
      | none => exact absurd hm (R1.fresh hq).1
      | some ob => exact ⟨ob, rfl⟩
  have xlt : ∀ b, x = .ref b → b < I := fun b hb => by obtain ⟨_, ob, e⟩ := xlive b hb; rw [← hI0]; exact Heap.lt_size e
  have fpI : ∀ b ∈ fp, b = I ∨ b < I := fun b hb => (fpx b hb).imp id (xlt b)
  have hcl : ∀ y cc, (closOf env sc.names []).lookup y = some cc → cc < I := fun y cc hc => by
    have h1 := closOf_sub _ [] (F1.freeCells ok) (fun _ _ q => (nomatch q)) y cc hc
    refine byC fun hZ => ?_
    obtain ⟨_, ob, e, _⟩ := F1.cliv y cc h1
    refine hZ ?_; clear hZ
    rw [← hI0]; exact Heap.lt_size e
  have F0 : CF (I + 2) (I + 1) I fp (compEnvC sc (closOf env sc.names []) (I + 2) env) :=
    ⟨rfl, Ne.symm (self_ne I (by decide)), add_ne I (by decide), Ne.symm (self_ne I (by decide)), fun hm => not_between (fpI _ hm) 2 (by decide) rfl, fun hm => not_between (fpI _ hm) 1 (by decide) rfl, fun y cc hc => ⟨Nat.ne_of_lt (hcl y cc hc), ne_add (hcl y cc hc) 1, ne_add (hcl y cc hc) 2⟩⟩
  have hob : ∃ ob, (s1.heap.push o).get? I = some ob := let ⟨ob, _, q, _⟩ := hpl 0 _ st; ⟨ob, q⟩
  have st4 : St 0 h4 := W.frame 0 _ _ st fun b hb ob e => by
    rcases fpI b hb with rfl | hlt
    · exact hI4 ob e
    · rw [hsb.2 b (ne_add hlt 2)]; exact Heap.get?_push_of_some _ (Heap.get?_push_of_some _ e)
  have X0 : CS C (I + 2) (I + 1) I fp St (compNames nm sc.names) (compVM vm t tg) (compEnvC sc (closOf env sc.names []) (I + 2) env) (kill (tgtSlots t) ρ) 0 [] (lockV σ1 v true) (g1.withLk (lockSet g1 v)) { s1 with heap := h4, toks := s1.toks } :=
    ⟨RL, FC, st4, ⟨#[], ⟨0, hD4⟩, .nil⟩, offI, offD, let ⟨ob, q⟩ := hob; ⟨ob, hI4 ob q⟩, fun b hb => by
      rcases fpx b hb with rfl | hx
      · exact ⟨.inl offI.1, let ⟨ob, q⟩ := hob; ⟨ob, hI4 ob q⟩⟩
      · obtain ⟨q1, ob, q2⟩ := xlive b hx; exact ⟨q1, ob, k1 b ob q2⟩⟩
  have hoff3 : Off (own3 (I + 2) (I + 1) I) (g1.withLk (lockSet g1 v)) := fun b hb => by
    rcases hb with rfl | rfl | rfl
    · exact offI
    · exact offD
    · exact offL
  have loop := comp_loop (m := m) (sc := sc) (pos := pos) (iter := it') (vs := vs) (σE := σ2) (R := RR (.ref (I + 1)) (I + 2)) hE hT hA F0 W hpl hcE hcC hcT (fun y hy hc => ?_) (fun i v a1 a2 => (kill_get a1 a2).1) RL (fun i z u h1 h2 => VR_lk (VR_kept (C := C) kept (hP i z u h1 h2))) hoff3 hlen ?_ l.length 0 _ _ _ [] vs (Nat.zero_le _) rfl X0 (Ext.refl _ _) r2 rfl
  · exact codeAny_compStart_list loop (W.self 0 _ _ _ st4 loop)
  · rw [compNames_lookup] at hc
    refine byC fun hZ => ?_
    obtain ⟨k, k1, k2⟩ := Option.map_eq_some_iff.mp hc
    refine hZ ?_; clear hZ
    have hm := lookup_mem_pair k1
    cases k with
    | cell => exact ok.cell _ hm rfl
    | free => exact (ok.free y hm).1 hy
    | _ => simp at k2
  · intro gn sn h' tk Rn Fn accn offDn En hk
    have hnone : ∀ a, own3 (I + 2) (I + 1) I a → s1.heap.get? a = none := fun a ha => get?_le (by rcases ha with rfl | rfl | rfl <;> omega)
    have x1 : Ext noOwn (g1.withLk (lockSet g1 v)) s1 gn sn := Ext.drop (Ext.all (tk := s1.toks) k1) En hnone
    have x2 : Ext noOwn (g1.withLk (lockSet g1 v)) s1 gn { sn with heap := h', toks := tk } := x1.after hk (hnone _ (.inl rfl))
    have x3 : Ext noOwn g1 s1 (gn.withLk g1.lk) { sn with heap := h', toks := tk } := x2.relock fun b hb => .inl hb
    have hmu : ∀ i, v = .ref i → ∃ a, g1.μ[i]? = some a := by
      rintro i rfl; cases v1 with | ref hj => exact ⟨_, hj⟩
    refine hRR (I + 1) (I + 2) (gn.withLk g1.lk) _ ⟨e1.trans x3, unlock_rel R1 Rn x2.pre x2.lock hmu (items_ref hi), none_of_live e1.live (hnone _ (.inr (.inl rfl))), offDn, ?_, ?_, none_of_live e1.live (hnone _ (.inr (.inr rfl))), Fn.offL, add_ne I (by decide)⟩
    · obtain ⟨ws, a1, a2⟩ := accn; exact ⟨ws, a1, VRs_lk a2⟩
    · obtain ⟨m', n1, _⟩ := Fn.ns; exact ⟨m', n1⟩
end Mine

set_option autoImplicit false
set_option backward.match.sparseCases true
set_option linter.unusedVariables false
namespace Mine
open PySem PyProof.Rows PySem.SeqAt

variable {C : Fix} {c : Cx} {σ σ' : AH} {g g' : Cfg} {h h' : Heap} {s s' : Shared} {own : Addr → Prop} {A : Around} {d : Nat} {nm : NM} {vm : VM} {env : Env} {ρ : List PV}
  {Q : Value → Shared → Prop} {E : Value → Shared → Prop}

/-! ### slices -/
theorem sliceF_chk {a lo : PE} {e : Expr} (hc : chkE (.sliceF a lo) nm vm e = true) : ∃ v l sp pos, e = .Subscript v (.Slice (some l) none none sp) pos ∧ chkE a nm vm v = true ∧ chkE lo nm vm l = true := by
  refine byC fun hZ => ?_
  obtain ⟨v, ix, pos, rfl⟩ := fmSub hc
  obtain ⟨l, u, st, sp, rfl⟩ := fmSlice hc
  refine hZ ?_; clear hZ
  rcases l with _ | l <;> rcases u with _ | u <;> rcases st with _ | st <;> try (exact absurd (show false = true from hc) Bool.false_ne_true)
  obtain ⟨h1, h2⟩ := and2 (show (chkE a nm vm v && chkE lo nm vm l) = true from hc)
  exact ⟨v, l, sp, pos, rfl, h1, h2⟩
theorem sliceFT_chk {a lo hi : PE} {e : Expr} (hc : chkE (.sliceFT a lo hi) nm vm e = true) : ∃ v l u sp pos, e = .Subscript v (.Slice (some l) (some u) none sp) pos ∧ chkE a nm vm v = true ∧ chkE lo nm vm l = true ∧ chkE hi nm vm u = true := by
  refine byC fun hZ => ?_
  obtain ⟨v, ix, pos, rfl⟩ := fmSub hc
  obtain ⟨l, u, st, sp, rfl⟩ := fmSlice hc
  refine hZ ?_; clear hZ
  rcases l with _ | l <;> rcases u with _ | u <;> rcases st with _ | st <;> try (exact absurd (show false = true from hc) Bool.false_ne_true)
  obtain ⟨h12, h3⟩ := and2 (show (chkE a nm vm v && chkE lo nm vm l && chkE hi nm vm u) = true from hc)
  obtain ⟨h1, h2⟩ := and2 h12
  exact ⟨v, l, u, sp, pos, rfl, h1, h2, h3⟩
theorem natOf_vr {v : PV} {x : Value} {i : Nat} (e : natOf v = some i) (hv : C.VR g h v x) : ∃ t, x = .int (i : Int) t := by
  refine byC fun hZ => ?_
  obtain ⟨k, h1, h2⟩ := bind_elim (fun o => o = some i) (fun q => nomatch q) e
  obtain ⟨t, rfl⟩ := int_vr h1 hv
  refine hZ ?_; clear hZ
  split at h2
  · rename_i hk
    cases h2
    exact ⟨t, by rw [Int.toNat_of_nonneg hk.1]⟩
  · cases h2

theorem sndE_sliceF {a lo : PE} (ha : SndE C c d a) (hl : SndE C c d lo) : SndE C c d (.sliceF a lo) := by
  intro nm vm e env m ρ σ g s A Q E hc F R hA hp
  refine byC fun hZ => ?_
  obtain ⟨v, l, sp, pos, rfl, h1, h2⟩ := sliceF_chk hc
  obtain ⟨x, σ1, r1, hp⟩ := hp.bindE
  obtain ⟨y, σ2, r2, hp⟩ := hp.bindE
  refine hZ ?_; clear hZ
  refine Subscript_ (ha nm vm v env 0 ρ σ g s A _ _ h1 F R hA (PostE.mk r1 fun g1 s1 vx e1 R1 v1 => ?_))
  refine wpAny_Slice (show wpAny _ _ (eval l env) _ _ _ from hl nm vm l env 0 ρ σ1 g1 s1 A _ _ h2 (F.ext R e1) R1 hA (PostE.mk r2 fun g2 s2 vy e2 R2 v2 => ?_))
  refine byC fun hZ => ?_
  obtain ⟨i, hi, hp⟩ := (fin_sound (m := m) (E := E) (hp.shift (e1.trans e2))).bind
  obtain ⟨t, rfl⟩ := natOf_vr hi v2
  refine hZ ?_; clear hZ
  refine wpAny_pure (wpAny_pure ?_)
  exact cut_sound R2 (b := 1000000) (o := none) (deref_sound R2 (VR_ext R1 e2 Off.none v1)) (fun n hn => ⟨n, .none, (Nat.min_eq_right hn).symm⟩) hp
theorem sndE_sliceFT {a lo hi : PE} (ha : SndE C c d a) (hl : SndE C c d lo) (hh : SndE C c d hi) : SndE C c d (.sliceFT a lo hi) := by
  intro nm vm e env m ρ σ g s A Q E hc F R hA hp
  refine byC fun hZ => ?_
  obtain ⟨v, l, u, sp, pos, rfl, h1, h2, h3⟩ := sliceFT_chk hc
  obtain ⟨x, σ1, r1, hp⟩ := hp.bindE
  obtain ⟨y, σ2, r2, hp⟩ := hp.bindE
  obtain ⟨z, σ3, r3, hp⟩ := hp.bindE
  refine hZ ?_; clear hZ
  refine Subscript_ (ha nm vm v env 0 ρ σ g s A _ _ h1 F R hA (PostE.mk r1 fun g1 s1 vx e1 R1 v1 => ?_))
  refine wpAny_Slice (show wpAny _ _ (eval l env) _ _ _ from hl nm vm l env 0 ρ σ1 g1 s1 A _ _ h2 (F.ext R e1) R1 hA (PostE.mk r2 fun g2 s2 vy e2 R2 v2 => ?_))
  refine (show wpAny _ _ (eval u env) _ _ _ from hh nm vm u env 0 ρ σ2 g2 s2 A _ _ h3 ((F.ext R e1).ext R1 e2) R2 hA (PostE.mk r3 fun g3 s3 vz e3 R3 v3 => ?_))
  refine byC fun hZ => ?_
  obtain ⟨i, hi, hp⟩ := (fin_sound (m := m) (E := E) (hp.shift ((e1.trans e2).trans e3))).bind
  obtain ⟨j, hj, hp⟩ := hp.bind
  obtain ⟨t, rfl⟩ := natOf_vr hi v2
  obtain ⟨t', rfl⟩ := natOf_vr hj v3
  refine hZ ?_; clear hZ
  refine wpAny_pure ?_
  exact cut_sound R3 (b := j) (o := some (j : Int)) (deref_sound R3 (VR_ext R1 (e2.trans e3) Off.none v1)) (fun n hn => ⟨_, .int j t', rfl⟩) hp

/-! ### attributes -/
theorem instAt_eq {i d : Nat} {k : Str} {l : List (Str × PV)} (h : instAt σ i = some (k, d, l)) : σ[i]? = some (.inst k d) ∧ σ[d]? = some (.ns l) := by
  unfold instAt at h
  cases ho : σ[i]? with
  | none => rw [ho] at h; cases h
  | some o =>
    rw [ho] at h
    cases o with
    | inst k' d' =>
      refine byC fun hZ => ?_
      obtain ⟨l', h1, h2⟩ := Option.map_eq_some_iff.mp (show (nsAt σ d').map (fun l => (k', d', l)) = some (k, d, l) from h)
      refine hZ ?_; clear hZ
      cases h2
      refine ⟨rfl, ?_⟩
      unfold nsAt at h1
      cases hn : σ[d]? with
      | none => rw [hn] at h1; cases h1
      | some o => rw [hn] at h1; cases o <;> cases h1; rfl
    | _ => cases h
/-- an instance in the heap -/
theorem inst_sound (R : C.Rel σ g h) {v : PV} {x : Value} {k : Str} {d : Nat} {l : List (Str × PV)} (hv : C.VR g h v x) (he : instOf σ v = some (k, d, l)) :
    ∃ i a dx I m, v = .ref i ∧ x = .ref a ∧ σ[i]? = some (.inst k d) ∧ σ[d]? = some (.ns l) ∧ g.μ[i]? = some a ∧ g.μ[d]? = some dx ∧ C.cls k = some I ∧ IsInst h a I.C dx ∧ h.Ns1 dx m ∧ NsR C.prog C.w g h l m ∧ h.Inst a I.C m ∧ ¬ g.lk a ∧ ¬ g.lk dx := by
  refine byC fun hZ => ?_
  obtain ⟨i, e, he⟩ := bind_elim (fun o => o = some (k, d, l)) (fun q => nomatch q) he
  obtain ⟨h1, h2⟩ := instAt_eq he
  refine hZ ?_; clear hZ
  have hv' := hv
  rw [refOf_eq e] at hv'
  refine byC fun hZ => ?_
  obtain ⟨a, rfl, hi⟩ := VR_inv hv'
  obtain ⟨ql, I, dx, q1, q2, q3⟩ := R.rel.objs i _ a h1 hi
  obtain ⟨ql2, m, q4, q5⟩ := R.rel.objs d _ dx h2 q2
  refine hZ ?_; clear hZ
  refine ⟨i, a, dx, I, m, refOf_eq e, rfl, h1, h2, hi, q2, q1, q3, q4, q5, ?_⟩
  refine byC fun hZ => ?_
  obtain ⟨o, w1, w2, w3, w4, w5⟩ := q3
  refine hZ ?_; clear hZ
  exact ⟨⟨o, w1, w2, w3, .inr ⟨dx, w4, w5, q4⟩⟩, ql, ql2⟩

theorem vr_handed {v : PV} {x : Value} (hv : C.VR g h v x) : handedOut x = pure x := by cases hv <;> rfl
theorem attr_chk {a : PE} {x : Str} {e : Expr} (hc : chkE (.attr a x) nm vm e = true) : ∃ v pos, e = .Attribute v x pos ∧ plainBase v = true ∧ chkE a nm vm v = true := by
  refine byC fun hZ => ?_
  obtain ⟨v, y, pos, rfl⟩ := fmAttr hc
  obtain ⟨h12, h3⟩ := and2 (show (y == x && plainBase v && chkE a nm vm v) = true from hc)
  obtain ⟨h1, h2⟩ := and2 h12
  refine hZ ?_; clear hZ
  have h1 : y = x := by simpa using h1
  subst h1
  exact ⟨v, pos, rfl, h2, h3⟩
theorem sndE_attr (X : CxOK C c d) {a : PE} {x : Str} (ha : SndE C c d a) : SndE C c d (.attr a x) := by
  intro nm vm e env m ρ σ g s A Q E hc F R hA hp
  refine byC fun hZ => ?_
  obtain ⟨v, pos, rfl, h1, h2⟩ := attr_chk hc
  obtain ⟨u, σ1, r1, hp⟩ := hp.bindE
  obtain ⟨y, hy, hp2⟩ := okV_elim hp
  refine hZ ?_; clear hZ
  clear hp
  refine Attribute_any_ (ha nm vm v env 0 ρ σ g s A _ _ h2 F R hA (PostE.mk r1 fun g1 s1 vx e1 R1 v1 => ?_)) ?_
  · refine byC fun hZ => ?_
    obtain ⟨⟨k, dd, l⟩, hi, hy2⟩ := bind_elim (fun o => o = some y) (fun q => nomatch q) hy
    refine hZ ?_; clear hZ
    clear hy
    split at hy2
    · rename_i hat
      refine byC fun hZ => ?_
      obtain ⟨i, a', dx, I, mm, rfl, rfl, q1, q2, q3, q4, q5, q6, q7, q8, q9, q10, q11⟩ := inst_sound R1 v1 hi
      have ok := X.cls k I q5
      obtain ⟨z, z1, z2⟩ := (q8 x).1 y hy2
      obtain ⟨hp', gg, dr, tk, os⟩ := s1
      obtain ⟨nm', q, bs, sn, sub, col, dd', k0, k1, k2, k3, k5, hC⟩ := (ok.cls.keeps R1.rel.base).obj
      refine hZ ?_; clear hZ
      exact load_attr hC (ok.cls.keeps R1.rel.base).ns ok.nget (ok.quiet x hat) (X.atr x hat) q9 z1 (vr_handed z2) (hp2 g1 _ z e1.toks R1 z2)
    · cases hy2
  · rw [arm_eval_Attribute, base_plain h1]
end Mine

set_option autoImplicit false
set_option backward.match.sparseCases true
set_option linter.unusedVariables false
namespace Mine
open PySem PyProof.Rows PySem.SeqAt

variable {C : Fix} {c : Cx} {σ σ' : AH} {g g' : Cfg} {h h' : Heap} {s s' : Shared} {own : Addr → Prop} {A : Around} {d : Nat} {nm : NM} {vm : VM} {env : Env} {ρ : List PV}
  {Q : Value → Shared → Prop} {E : Value → Shared → Prop}

/-! ### methods of own classes -/
theorem call_meth_own {o : Expr} {name : Str} {apos pos : Pos} {args : List Expr}
    (hbase : attributeBase o name env (eval o env) = eval o env)
    (hfew : ((backTo pos (starEach args env)).all (fun x => !x.1) && (backToKw pos (keywordEach [] env)).all (fun x => x.1.isSome)
      && decide (args.length + ([] : List Keyword).length + (if ([] : List Keyword).isEmpty then 0 else 1) < 30)) = true)
    (hline : (apos.endLine == pos.line) = true)
    (h : wpAny (model C.prog C.w) A (eval o env) (fun ov s₁ => ∃ f first, (∀ (pl : Sem Bool) (Q' : Value × List Value → Shared → Prop), Q' (f, first) s₁ → wpAny (model C.prog C.w) A (getMethod ov name pl) Q' E s₁) ∧ wpAny (model C.prog C.w) A (callWith pos f first (backTo pos (starEach args env)) []) Q E s₁) E s) :
    wpAny (model C.prog C.w) A (eval (.Call (.Attribute o name apos) args [] pos) env) Q E s := by
  rw [arm_eval_Call, hbase]
  refine wpAny_bind (wpAny_mono h (fun ov s₁ h₁ => ?_) fun _ _ e => e)
  refine byC fun hZ => ?_
  obtain ⟨f, first, hm, hc⟩ := h₁
  refine hZ ?_; clear hZ
  refine wpAny_bind (wpAny_standAt ?_)
  first
    | (
       have hform : methodCallForm (args.length + ([] : List Keyword).length) (backTo pos (starEach args env)) (backToKw pos (keywordEach [] env)) = true := hfew
       have hpos : methodCallPos true o env apos pos = pure pos := by unfold methodCallPos; simp [hline]
       unfold methodCall
       rw [hform]
       refine wpAny_bind (wpAny_holding (hm _ _ ?_))
       exact wpAny_bind (wpAny_of_eq hpos hc))
    | (
       unfold methodCall calleeOf methodCallPos methodCallForm
       simp only [hfew, hline, if_true, Bool.not_true, Bool.or_true]
       refine wpAny_bind (wpAny_holding (hm _ _ ?_))
       exact wpAny_bind (wpAny_pure hc))
    | (
       simp only [hfew, hline, if_true, Bool.not_true, Bool.or_true]
       refine wpAny_bind (wpAny_holding (hm _ _ ?_))
       exact wpAny_bind (wpAny_pure hc))

theorem umeth_chk {o : PE} {x : Str} {args : PEs} {e : Expr} (hc : chkE (.umeth o x args) nm vm e = true) : ∃ o' apos as pos, e = .Call (.Attribute o' x apos) as [] pos ∧ plainBase o' = true ∧ (apos.endLine == pos.line) = true ∧ as.length < 20 ∧ chkE o nm vm o' = true ∧ chkEs args nm vm as = true := by
  refine byC fun hZ => ?_
  obtain ⟨fe, as, pos, rfl⟩ := fmCall hc
  obtain ⟨o', name, apos, rfl⟩ := fmAttr hc
  obtain ⟨h12345, h6⟩ := and2 hc
  obtain ⟨h1234, h5⟩ := and2 h12345
  obtain ⟨h123, h4⟩ := and2 h1234
  obtain ⟨h12, h3⟩ := and2 h123
  obtain ⟨h1, h2⟩ := and2 h12
  refine hZ ?_; clear hZ
  have h1 : name = x := by simpa using h1
  subst h1
  exact ⟨o', apos, as, pos, rfl, h2, h3, of_decide_eq_true h4, h5, h6⟩
theorem few_args {as : List Expr} {pos : Pos} (hplain : (backTo pos (starEach as env)).any (·.1) = false) (h3 : as.length < 20) :
    ((backTo pos (starEach as env)).all (fun x => !x.1) && (backToKw pos (keywordEach [] env)).all (fun x => x.1.isSome) && decide (as.length + ([] : List Keyword).length + (if ([] : List Keyword).isEmpty then 0 else 1) < 30)) = true := by
  have : (backTo pos (starEach as env)).all (fun x => !x.1) = true := by
    rw [List.all_eq_true]; intro y hy
    rw [List.any_eq_false] at hplain
    simpa using hplain y hy
  rw [this]
  simp only [Bool.true_and]
  show (true && decide (as.length + 0 + 0 < 30)) = true
  simp; exact om301 h3
theorem okN_elim {o : Option Str} {f : Str → Res PV} (hp : PostE C own g s (okN o f) Q E) : ∃ k, o = some k ∧ PostE C own g s (f k) Q E := by
  cases o with
  | none => exact hp.elim
  | some v => exact ⟨v, rfl, hp⟩

theorem sndE_umeth (X : CxOK C c d) {o : PE} {x : Str} {args : PEs} (ho : SndE C c d o) (h : SndEs C c d args) : SndE C c d (.umeth o x args) := by
  intro nm vm e env md ρ σ g s A Q E hc F R hA hp
  refine byC fun hZ => ?_
  obtain ⟨o', apos, as, pos, rfl, h1, h2, h3, h4, h5⟩ := umeth_chk hc
  obtain ⟨v, σ1, r1, hp⟩ := hp.bindE
  obtain ⟨ky, hk, hp⟩ := okN_elim hp
  obtain ⟨vs, σ2, r2, hp⟩ := hp.bindE
  refine hZ ?_; clear hZ
  have hplain := plain_args (env := env) args as (pos := pos) h5
  refine call_meth_own (base_plain h1) (few_args hplain h3) h2 (ho nm vm o' env 0 ρ σ g s A _ _ h4 F R hA (PostE.mk r1 fun g1 s1 vx e1 R1 v1 => ?_))
  refine byC fun hZ => ?_
  obtain ⟨⟨k, dd, l⟩, hi, hk2⟩ := bind_elim (fun o => o = some ky) (fun q => nomatch q) hk
  refine hZ ?_; clear hZ
  clear hk
  have hk3 : (if (dget l x).isNone = true then some (methK k x) else none) = some ky := hk2
  clear hk2
  split at hk3
  · rename_i hnone
    cases hk3
    refine byC fun hZ => ?_
    obtain ⟨i, a, dx, I, mm, rfl, rfl, q1, q2, q3, q4, q5, q6, q7, q8, q9, q10, q11⟩ := inst_sound R1 v1 hi
    refine hZ ?_; clear hZ
    have ok := X.cls k I q5
    have hnb : c.cal (methK k x) (.ref i :: vs) σ2 ≠ .bad := fun q => by
      have hp : PostE C noOwn g s (c.cal (methK k x) (.ref i :: vs) σ2) Q E := hp
      rw [q] at hp; exact hp
    refine byC fun hZ => ?_
    obtain ⟨f, fo, fd, y, z1, z2, z3, z4, z5⟩ := X.mnv k I x (.ref i :: vs) σ2 q5 hnb
    refine hZ ?_; clear hZ
    refine ⟨.ref f, [.ref a], fun pl Q' hQ' => ?_, ?_⟩
    · refine byC fun hZ => ?_
      obtain ⟨hp', gg, dr, tk, os⟩ := s1
      obtain ⟨nm', q, bs, sn, sub, col, dd', k0, k1, k2, k3, k5, hC⟩ := (ok.cls.keeps R1.rel.base).obj
      refine hZ ?_; clear hZ
      exact method_of hC (ok.cls.keeps R1.rel.base).ns ok.nget ok.natt z1 (R1.rel.base _ _ z2) z3 z5 q9 ((q8 x).2 (by simpa using hnone)) hQ'
    · refine Calls.callWith_function (o := fo) (fd := fd) (evalArgs_any h5 (h nm vm as env 0 ρ σ1 g1 s1 A pos _ _ h5 (F.ext R e1) R1 hA (PostL.mk r2 fun g2 s2 xs e2 R2 v2 => ⟨⟨R2.rel.base f fo z2, z4⟩, ?_⟩)))
      exact X.mcl k I x f (.ref i :: vs) (.ref a :: xs) σ2 g2 s2 A Q E q5 z1 hA R2 (.cons (VR_ext R1 e2 Off.none v1) v2) (hp.shift (e1.trans e2))
  · cases hk3

/-! ### making an instance -/
theorem callWith_own {h₀ : Heap} {Cc N : Addr} {mN : Str → Option Value} {pos : Pos} {args : List (Bool × Sem Value)} (X : ClsAt h₀ Cc N mN) (hst : args.any (fun x => x.fst) = false)
    (h : wpAny (model C.prog C.w) A (evalArgs (.ref Cc) true args []) (fun as s₁ => as.kw = [] ∧ (∀ b o, h₀.get? b = some o → s₁.heap.get? b = some o) ∧ wpAny (model C.prog C.w) A (call (.ref Cc) as.pos) Q E s₁) E s) :
    wpAny (model C.prog C.w) A (callWith pos (.ref Cc) [] args []) Q E s := by
  have hst' : (args.any (fun x => x.fst) || ([] : List (Option Str × Sem Value)).any fun x => x.fst.isNone) = false := by rw [hst]; rfl
  unfold callWith
  refine wpAny_bind (wpAny_holding (wpAny_mono h (fun as s₁ h₁ => ?_) fun _ _ x => x))
  refine byC fun hZ => ?_
  obtain ⟨e, hk, hc⟩ := h₁
  obtain ⟨vs, kw⟩ := as
  refine hZ ?_; clear hZ
  cases (show kw = [] from e)
  refine byC fun hZ => ?_
  obtain ⟨hh, g, d, t, os⟩ := s₁
  obtain ⟨nm, q, bs, sn, sub, col, dd, k0, k1, k2, k3, k5, hC⟩ := (X.keeps hk).obj
  refine hZ ?_; clear hZ
  have f1 := tc_lookup
  have hT : (⟨hh, g, d, t, os⟩ : Shared).TypeIs (.ref Cc) "type" := ⟨_, hC, rfl⟩
  refine wpAny_bind (wpAny_standAt ?_)
  show wpAny _ _ (keeperOf (.ref Cc) >>= _) _ _ _
  unfold keeperOf specialOf
  repeat (any_goals (first | assumption | with_reducible refine wpAny_loadPart_at hC ?_ | with_reducible refine wpAny_load' hC ?_ | wp_step))
  rw [if_pos (by rfl), hst']
  show wpAny _ _ (call (.ref Cc) vs [] >>= fun r => do holding [r] point; pure r) _ _ _
  exact wpAny_bind (wpAny_mono hc (fun r s' hr => wpAny_bind (wpAny_holding (wpAny_point (wpAny_pure hr)))) fun _ _ x => x)

theorem new_chk {k : Str} {args : PEs} {e : Expr} (hc : chkE (.new k args) nm vm e = true) : ∃ p as pos, e = .Call (.Name k p) as [] pos ∧ isGlob (nm.lookup k) = true ∧ plainName k = true ∧ chkEs args nm vm as = true := by
  refine byC fun hZ => ?_
  obtain ⟨fe, as, pos, rfl⟩ := fmCall hc
  obtain ⟨x, p, rfl⟩ := fmName hc
  obtain ⟨h123, h4⟩ := and2 (show (x == k && isGlob (nm.lookup x) && plainName x && chkEs args nm vm as) = true from hc)
  obtain ⟨h12, h3⟩ := and2 h123
  obtain ⟨h1, h2⟩ := and2 h12
  refine hZ ?_; clear hZ
  have h1 : x = k := by simpa using h1
  subst h1
  exact ⟨p, as, pos, rfl, h2, h3, h4⟩

/-- the relation behind the making -/
theorem made_rel (R : C.Rel σ g h) {x dx : Addr} {k : Str} {I : CI} (hI : C.cls k = some I) (Mk : Heap.MadeObj h h' x dx I.C) :
    C.Rel (σ ++ [.ns []] ++ [.inst k σ.length]) ((g.trk dx).trk x) h' ∧ ((g.trk dx).trk x).μ[σ.length + 1]? = some x := by
  refine byC fun hZ => ?_
  obtain ⟨o, w1, w2, w3, w4⟩ := Mk.inst
  refine hZ ?_; clear hZ
  have hdd := Mk.dict o w1
  obtain ⟨hne, hns⟩ : dx ≠ x ∧ h'.Ns1 dx fun _ => none := by
    rcases w4 with ⟨hn0, _⟩ | ⟨d', hd', hne', hns'⟩
    · rw [hn0] at hdd; cases hdd
    · cases hd'.symm.trans hdd; exact ⟨hne', hns'⟩
  have R1 : C.Rel σ g h' := R.kept (.of_all Mk.keeps)
  have fd := R.fresh Mk.newD
  have fx := R.fresh Mk.newX
  have R2 : C.Rel (σ ++ [.ns []]) (g.trk dx) h' := R1.trk fd.1 fd.2 ⟨fun q => fd.1 (R.rel.lkμ _ q), _, hns, fun k => ⟨fun v e => (nomatch e), fun _ => rfl⟩⟩
  have hx2 : x ∉ (g.trk dx).μ := fun q => (List.mem_append.mp q).elim fx.1 fun q => hne (List.mem_singleton.mp q).symm
  have hlen := R.rel.len
  refine ⟨R2.trk hx2 fx.2 ⟨fun q => fx.1 (R.rel.lkμ _ q), I, dx, hI, ?_, o, w1, w2, w3, hdd, hne⟩, ?_⟩
  · show (g.μ ++ [dx])[σ.length]? = some dx
    rw [← hlen]; simp
  · show ((g.μ ++ [dx]) ++ [x])[σ.length + 1]? = some x
    rw [← hlen]; simp

theorem sndE_new (K : C.OK) (X : CxOK C c d) {k : Str} {args : PEs} (h : SndEs C c d args) : SndE C c d (.new k args) := by
  intro nm vm e env m ρ σ g s A Q E hc F R hA hp
  refine byC fun hZ => ?_
  obtain ⟨p, as, pos, rfl, h2, h3, h4⟩ := new_chk hc
  obtain ⟨vs, σ1, r1, hp⟩ := hp.bindE
  obtain ⟨r, σ2, r2, hp⟩ := hp.bindE
  have hnb : c.cal (methK k "__init__") (.ref (σ1.length + 1) :: vs) (σ1 ++ [.ns []] ++ [.inst k σ1.length]) ≠ .bad := fun q => by rw [q] at r2; cases r2
  obtain ⟨I, i1, i2⟩ := X.new k _ _ hnb
  have ok := X.cls k I i1
  obtain ⟨f, fo, fd, y, z1, z2, z3, z4, z5⟩ := X.mnv k I "__init__" _ _ i1 hnb
  refine hZ ?_; clear hZ
  obtain ⟨rfl, hp⟩ : r = .none ∧ PostE C noOwn g s (.ok (.ref (σ1.length + 1)) σ2) Q E := by
    cases r with
    | none => exact ⟨rfl, hp⟩
    | _ => exact hp.elim
  rw [eval_Call_Name]
  refine wpAny_bind (Calls.Name_function_global F.kind (isGlob_kind F h2) (Calls.loadGlobal_global (globNs K R F) i2 ?_) (plainName_debug h3))
  refine callWith_own ok.cls (plain_args (env := env) args as (pos := pos) h4) (evalArgs_any h4 (h nm vm as env 0 ρ σ g s A pos _ _ h4 F R hA (PostL.mk r1 fun g1 s1 xs e1 R1 v1 => ⟨rfl, R1.rel.base, ?_⟩)))
  refine byC fun hZ => ?_
  obtain ⟨hh, gg, dr, tk, os⟩ := s1
  obtain ⟨nm', q, bs, sn, sub, col, dd', k0, k1, k2, k3, k5, hC⟩ := (ok.cls.keeps R1.rel.base).obj
  refine hZ ?_; clear hZ
  refine wpAny_call_obj_init PySem.F.objNew hC (ok.cls.keeps R1.rel.base).ns z1 (R1.rel.base _ _ z2) z3 fun h' x dx Mk => ?_
  obtain ⟨R2, hμ⟩ := made_rel R1 i1 Mk
  have x2 : Ext noOwn g1 ⟨hh, gg, dr, tk, os⟩ ((g1.trk dx).trk x) ⟨h', gg, dr, tk, os⟩ := ((Ext.all (s := ⟨hh, gg, dr, tk, os⟩) (tk := tk) Mk.keeps).trk Mk.newD).trk Mk.newX
  refine X.mkl k I f _ _ _ ((g1.trk dx).trk x) ⟨h', gg, dr, tk, os⟩ A _ _ E i1 z1 hA R2 (.cons (.ref hμ) (VRs_ext R1 x2 Off.none v1)) (PostE.mk r2 fun g3 s3 y e3 R3 v3 => ⟨VR_inv v3, ?_⟩)
  refine hp g3 s3 (.ref x) ((e1.trans x2).trans e3) R3 (.ref ?_)
  obtain ⟨t, ht⟩ := e3.pre
  rw [← ht, List.getElem?_append_left (List.getElem?_eq_some_iff.mp hμ).1]; exact hμ
end Mine

set_option autoImplicit false
set_option backward.match.sparseCases true
set_option linter.unusedVariables false
namespace Mine
open PySem PyProof.Rows PySem.SeqAt

variable {C : Fix} {c : Cx} {σ σ' : AH} {g g' : Cfg} {h h' : Heap} {s s' : Shared} {own : Addr → Prop} {A : Around} {d : Nat} {nm : NM} {vm : VM} {env : Env} {ρ : List PV}
  {Q : Value → Shared → Prop} {E : Value → Shared → Prop}

theorem folded_plain {e : Expr} {x : Value} (h : plainE e = true) : foldedSetIterable e env x = pure x := by
  cases e <;> first | rfl | cases h

theorem unlock_ok {α : Type} {v : PV} {b : Bool} {r : Res α} {a : α} {σ : AH} (h : unlock v b r = .ok a σ) : ∃ σ0, r = .ok a σ0 ∧ σ = lockV σ0 v b := by
  cases r with
  | ok x σ0 => cases h; exact ⟨σ0, rfl, rfl⟩
  | exc => cases h
  | bad => cases h

theorem comp_ev {elt it cond : PE} {t : Tgt} {m : Nat} (hp : PostE C own g s (ev c (.comp elt t it cond) m ρ σ) Q E) : ∃ v σ1 l vs σ2, ev c it 0 ρ σ = .ok v σ1 ∧ items σ1 v = some l ∧ compL (ev c cond 0) (ev c elt m.pred) t (kill (tgtSlots t) ρ) l (lockV σ1 v true) = .ok vs σ2 ∧ vs.length ≤ 1000000 ∧
    PostE C own g s (box m (.list vs) (lockV σ2 v (lkV σ1 v))) Q E := by
  refine byC fun hZ => ?_
  obtain ⟨v, σ1, r1, hp⟩ := hp.bindE
  refine hZ ?_; clear hZ
  cases hi : items σ1 v with
  | none => rw [hi] at hp; exact hp.elim
  | some l =>
    rw [hi] at hp
    simp only at hp
    refine byC fun hZ => ?_
    obtain ⟨vs, σ3, r3, hp⟩ := hp.bindE
    obtain ⟨σ2, r2, rfl⟩ := unlock_ok r3
    refine hZ ?_; clear hZ
    split at hp
    · rename_i hs
      exact ⟨v, σ1, l, vs, σ2, r1, hi, r2, by simpa [small] using hs, hp⟩
    · exact hp.elim

theorem sndE_comp {elt it cond : PE} {t : Tgt} (hI : SndE C c d it) (hE : SndE C c d elt) (hT : SndT C c d cond) : SndE C c d (.comp elt t it cond) := by
  intro nm vm e env m ρ σ g s A Q E hc F R hA hp
  refine byC fun hZ => ?_
  obtain ⟨e', tg, it', ifs, sc, pos, rfl, c1, ok, c3, c4, c5, c6⟩ := comp_chk hc
  obtain ⟨v, σ1, l, vs, σ2, r1, hi, r2, hl, hp⟩ := comp_ev hp
  refine hZ ?_; clear hZ
  rw [eval_ListComp]
  refine wpAny_comprehension_free (use := none) rfl (fun x => folded_plain (chk_plain c1)) (closure_eq (F.freeCells ok)) ok.kind ok.names ?_
  refine comp_enter (RR := fun acc L => compPost (model C.prog C.w) A E none Q acc L) hI hE hT hA F R c1 ok c3 c4 c5 c6 r1 hi r2 hl fun D L g' s' X => ?_
  obtain ⟨mL, hn⟩ := X.ns
  refine ⟨mL, hn, fun h' hs => ?_⟩
  obtain ⟨x1, x2, x3⟩ := X.letGo hs
  exact box_sound hp x1 x2 X.newD X.offD.1 X.offD.2 x3

noncomputable def bareP0 : PE → Prop
  | .notE _ | .andE _ | .orE _ | .cmp .. => False
  | _ => True
theorem bare_of {pe : PE} (h : bareP0 pe) : ∀ nm vm e, chkE pe nm vm e = true → bareT e = true := by
  intro nm vm e hc
  cases e <;> first | rfl | skip
  all_goals (cases pe <;> first | exact h.elim | (exact absurd (show false = true from hc) Bool.false_ne_true) | skip)
  all_goals (rename_i op x p a; cases op <;> first | rfl | (exact absurd (show false = true from hc) Bool.false_ne_true))

structure SndP (C : Fix) (c : Cx) (d : Nat) (pe : PE) : Prop where
  e : SndE C c d pe
  t : SndT C c d pe
structure SndPs (C : Fix) (c : Cx) (d : Nat) (pes : PEs) : Prop where
  es : SndEs C c d pes
  an : SndB C c d .And (evAnd c) pes
  or : SndB C c d .Or (evOr c) pes
  hd : ∀ e es, pes = .cons e es → SndE C c d e

theorem bareP {pe : PE} (h : SndE C c d pe) (hb : bareP0 pe) : SndP C c d pe := ⟨h, sndT_bare h (bare_of hb)⟩

noncomputable def PEs.isN : PEs → Bool
  | .nil => true
  | .cons _ _ => false
mutual
theorem sndP (K : C.OK) (X : CxOK C c d) : ∀ pe : PE, SndP C c d pe
  | .const k => bareP (sndE_const k) trivial
  | .loc i => bareP (sndE_loc i) trivial
  | .andE es => ⟨sndE_and (sndPs K X es).an, sndT_and (sndPs K X es).an⟩
  | .orE es => ⟨sndE_or (sndPs K X es).or, sndT_or (sndPs K X es).or⟩
  | .bin op a b => bareP (sndE_bin K (sndP K X a).e (sndP K X b).e) trivial
  | .notE a => ⟨sndE_not (sndP K X a).e, sndT_not (sndP K X a).t⟩
  | .neg a => bareP (sndE_neg (sndP K X a).e) trivial
  | .cmp op a b => ⟨sndE_cmp (sndP K X a).e (sndP K X b).e, sndT_cmp (sndP K X a).e (sndP K X b).e⟩
  | .tup es => bareP (sndE_tup (sndPs K X es).es) trivial
  | .lst es => bareP (sndE_lst (sndPs K X es).es) trivial
  | .edict => bareP sndE_edict trivial
  | .idx a i => bareP (sndE_idx (sndP K X a).e (sndP K X i).e) trivial
  | .sliceF a lo => bareP (sndE_sliceF (sndP K X a).e (sndP K X lo).e) trivial
  | .sliceFT a lo hi => bareP (sndE_sliceFT (sndP K X a).e (sndP K X lo).e (sndP K X hi).e) trivial
  | .glob x => bareP (sndE_glob K X x) trivial
  | .attr a x => bareP (sndE_attr X (sndP K X a).e) trivial
  | .umeth o x args => bareP (sndE_umeth X (sndP K X o).e (sndPs K X args).es) trivial
  | .new k args => bareP (sndE_new K X (sndPs K X args).es) trivial
  | .comp elt t it cond => bareP (sndE_comp (sndP K X it).e (sndP K X elt).e (sndP K X cond).t) trivial
  | .call f args => bareP (sndE_call K X (sndPs K X args).es) trivial
  | .bi b args => bareP (sndE_bi K X (sndPs K X args).es (sndPs K X args).hd) trivial
  | .meth o m args => bareP (sndE_meth (sndP K X o).e (sndPs K X args).es) trivial
theorem sndPs (K : C.OK) (X : CxOK C c d) : ∀ pes : PEs, SndPs C c d pes
  | .nil => ⟨sndEs_nil, sndAnd_nil, sndOr_nil, fun _ _ q => Bool.noConfusion (show true = false from congrArg PEs.isN q)⟩
  | .cons e es => ⟨sndEs_cons (sndP K X e).e (sndPs K X es).es, sndAnd_cons (sndP K X e).e (sndP K X e).t (sndPs K X es).an, sndOr_cons (sndP K X e).e (sndP K X e).t (sndPs K X es).or,
      fun e' es' q => by cases q; exact (sndP K X e).e⟩
end
end Mine

set_option autoImplicit false
set_option backward.match.sparseCases true
set_option linter.unusedVariables false
namespace Mine
open PySem PyProof.Rows PySem.SeqAt

variable {C : Fix} {c : Cx} {σ σ' : AH} {g g' : Cfg} {h h' : Heap} {s s' : Shared} {own : Addr → Prop} {A : Around} {d : Nat} {nm : NM} {vm : VM} {env : Env} {ρ : List PV}
  {Q : Flow → Shared → Prop} {E : Value → Shared → Prop}

noncomputable def FlwR (C : Fix) (g : Cfg) (h : Heap) : Flw → Flow → Prop
  | .next, f => f = .next
  | .brk, f => f = .brk
  | .cont, f => f = .cont
  | .ret v, f => ∃ x, f = .ret x ∧ C.VR g h v x

/-- behind a statement -/
noncomputable def PostX (C : Fix) (nm : NM) (vm : VM) (env : Env) (g : Cfg) (s : Shared) (r : Res FE) (Q : Flow → Shared → Prop) : Prop := match r with
  | .ok r σ' => ∀ g' s' fl, Ext (ownOf env) g s g' s' → C.Rel σ' g' s'.heap → FR C nm vm env r.2 g' s'.heap → FlwR C g' s'.heap r.1 fl → Q fl s'
  | _ => False

theorem PostX.bindX {α : Type} {r : Res α} {f : α → AH → Res FE} (hp : PostX C nm vm env g s (r.bind f) Q) : ∃ v σ1, r = .ok v σ1 ∧ PostX C nm vm env g s (f v σ1) Q := by
  cases r with
  | ok v σ1 => exact ⟨v, σ1, rfl, hp⟩
  | exc => exact hp.elim
  | bad => exact hp.elim
theorem PostX.shift {r : Res FE} (e : Ext (ownOf env) g s g' s') (hp : PostX C nm vm env g s r Q) : PostX C nm vm env g' s' r Q := by
  cases r with
  | ok v σ1 => exact fun g2 s2 fl e2 R2 F2 f2 => hp g2 s2 fl (e.trans e2) R2 F2 f2
  | exc => exact hp
  | bad => exact hp
theorem PostX.mk {r : Res FE} {f : Flw} {ρ' : List PV} (hr : r = .ok (f, ρ') σ') (h : ∀ g' s' fl, Ext (ownOf env) g s g' s' → C.Rel σ' g' s'.heap → FR C nm vm env ρ' g' s'.heap → FlwR C g' s'.heap f fl → Q fl s') : PostX C nm vm env g s r Q := by rw [hr]; exact h

theorem FR.off (F : FR C nm vm env ρ g h) : Off (ownOf env) g := fun b hb => by
  rcases hb with rfl | ⟨x, hx⟩
  · exact F.offL
  · exact F.offC x b hx

noncomputable def SndS (C : Fix) (c : Cx) (d : Nat) (ps : PS) : Prop := ∀ nm vm st env ρ σ g s A (Q : Flow → Shared → Prop) (E : Value → Shared → Prop), chkS ps nm vm st = true → FR C nm vm env ρ g s.heap → C.Rel σ g s.heap → AOK A d →
  PostX C nm vm env g s (exec c ps ρ σ) Q → wpAny (model C.prog C.w) A (PySem.exec st env) Q E s
noncomputable def SndSs (C : Fix) (c : Cx) (d : Nat) (ps : PSs) : Prop := ∀ nm vm st env ρ σ g s A (Q : Flow → Shared → Prop) (E : Value → Shared → Prop), chkSs ps nm vm st = true → FR C nm vm env ρ g s.heap → C.Rel σ g s.heap → AOK A d →
  PostX C nm vm env g s (execs c ps ρ σ) Q → wpAny (model C.prog C.w) A (PySem.execs st env) Q E s

theorem sndSs_nil : SndSs C c d .nil := by
  intro nm vm st env ρ σ g s A Q E hc F R hA hp
  cases st with
  | nil => exact wpAny_execs_nil (hp g s .next (Ext.refl g s) R F rfl)
  | cons => cases hc
theorem sndSs_cons {p : PS} {ps : PSs} (h1 : SndS C c d p) (h2 : SndSs C c d ps) : SndSs C c d (.cons p ps) := by
  intro nm vm st env ρ σ g s A Q E hc F R hA hp
  cases st with
  | nil => cases hc
  | cons st sts =>
    obtain ⟨c1, c2⟩ := and2 (show (chkS p nm vm st && chkSs ps nm vm sts) = true from hc)
    simp only [execs] at hp
    refine byC fun hZ => ?_
    obtain ⟨⟨f, ρ1⟩, σ1, r1, hp⟩ := hp.bindX
    refine hZ ?_; clear hZ
    refine wpAny_execs_cons (h1 nm vm st env ρ σ g s A _ _ c1 F R hA (PostX.mk r1 fun g1 s1 fl e1 R1 F1 hf => ?_))
    cases f with
    | next => cases hf; exact h2 nm vm sts env ρ1 σ1 g1 s1 A _ _ c2 F1 R1 hA (hp.shift e1)
    | brk => cases hf; exact hp g1 s1 .brk e1 R1 F1 rfl
    | cont => cases hf; exact hp g1 s1 .cont e1 R1 F1 rfl
    | ret v => obtain ⟨x, rfl, hv⟩ := hf; exact hp g1 s1 _ e1 R1 F1 ⟨x, rfl, hv⟩

theorem sndS_ret {m : Nat} {e : PE} (h : SndE C c d e) : SndS C c d (.ret m e) := by
  intro nm vm st env ρ σ g s A Q E hc F R hA hp
  refine byC fun hZ => ?_
  obtain ⟨v, pos, rfl⟩ := fmRet hc
  obtain ⟨x, σ1, r1, hp⟩ := hp.bindX
  refine hZ ?_; clear hZ
  refine wpAny_Return_some (h nm vm v env m ρ σ g s A _ _ hc F R hA (PostE.mk r1 fun g1 s1 y e1 R1 v1 => ?_))
  exact hp g1 s1 _ e1.weaken R1 (F.ext R e1) ⟨y, rfl, v1⟩

theorem swaps_notComp {e : Expr} {tgt : Option Expr} {n : Nat} (h : isComp e = false) : swapsWith e tgt n env = pure false := by
  cases e <;> first | rfl | cases h
theorem interactive_fn (F : FR C nm vm env ρ g h) : interactive env = false := by
  unfold interactive; rw [F.kind]; rfl

theorem sndS_expr {e : PE} (h : SndE C c d e) : SndS C c d (.expr e) := by
  intro nm vm st env ρ σ g s A Q E hc F R hA hp
  refine byC fun hZ => ?_
  obtain ⟨v, pos, rfl⟩ := fmExprS hc
  obtain ⟨c1, c2⟩ := and2 (show (!isComp v && chkE e nm vm v) = true from hc)
  obtain ⟨x, σ1, r1, hp⟩ := hp.bindX
  refine hZ ?_; clear hZ
  rw [exec_Expr env v pos (interactive_fn F) (swaps_notComp (by simpa using c1))]
  refine wpAny_bind (wpAny_standAt (wpAny_bind (h nm vm v env 0 ρ σ g s A _ _ c2 F R hA (PostE.mk r1 fun g1 s1 y e1 R1 v1 => ?_))))
  exact wpAny_dropValue (hp g1 s1 .next e1.weaken R1 (F.ext R e1) rfl)

theorem sndS_ite {t : PE} {a b : PSs} (ht : SndT C c d t) (ha : SndSs C c d a) (hb : SndSs C c d b) : SndS C c d (.ite t a b) := by
  intro nm vm st env ρ σ g s A Q E hc F R hA hp
  refine byC fun hZ => ?_
  obtain ⟨t', a', b', pos, rfl⟩ := fmIf hc
  obtain ⟨h12, h3⟩ := and2 (show (chkE t nm vm t' && chkSs a nm vm a' && chkSs b nm vm b') = true from hc)
  obtain ⟨h1, h2⟩ := and2 h12
  obtain ⟨x, σ1, r1, hp⟩ := hp.bindX
  refine hZ ?_; clear hZ
  cases hq : truth σ1 x with
  | none => rw [hq] at hp; exact hp.elim
  | some q =>
    rw [hq] at hp
    refine wpAny_If (ht nm vm t' env ρ σ g s A _ _ h1 F R hA (PostT.mk r1 hq fun g1 s1 e1 R1 => ?_))
    cases q with
    | true => exact ha nm vm a' env ρ σ1 g1 s1 A _ _ h2 (F.ext R e1) R1 hA (hp.shift e1.weaken)
    | false => exact hb nm vm b' env ρ σ1 g1 s1 A _ _ h3 (F.ext R e1) R1 hA (hp.shift e1.weaken)

/-! ### assignments -/
theorem assign_store (F : FR C nm vm env ρ g s.heap) (R : C.Rel σ g s.heap) {x : Str} {i : Nat} {v : PV} {y : Value} {Q : Unit → Shared → Prop} (hx : vm.lookup x = some i) (ho : isOwn (nm.lookup x) = true) (hv : C.VR g s.heap v y)
    (hq : ∀ s', FR C nm vm env (ρ.set i v) g s'.heap → C.Rel σ g s'.heap → Ext (ownOf env) g s g s' → Q () s') : wpAny (model C.prog C.w) A (storeName env x y) Q E s :=
  store_sound F R hx ho hv (.inl rfl) (fun _ cc hc => .inr ⟨x, hc⟩) hq

theorem exec_Assign_use (x pos' value pos) (hs : swapsWith value (some (.Name x pos')) pos.line env = pure true) : PySem.exec (.Assign [.Name x pos'] value pos) env = (do
    standAt pos
    evalThenUse value env (assign (.Name x pos') env)
    pure .next) := by
  have e : PySem.exec (.Assign [.Name x pos'] value pos) env = (do
      standAt pos
      if ← swapsWith value (some (.Name x pos')) pos.line env then
        evalThenUse value env (assign (.Name x pos') env)
        return .next
      let v ← eval value env
      standAt pos'
      bindName env x v
      pure .next) := rfl
  rw [e, hs]; rfl

theorem box_mk {m : Nat} {f : Frs} {u : PV} {σ1 : AH} {D : Addr} (hb : box m f σ = .ok u σ1) (R : C.Rel σ g h) (hn : D ∉ g.μ) (hf : ¬ g.Φ D) (hs : s.heap = h) (hr : FrsR C g s.heap f D) : ∃ g1, (g1 = g.frz D ∨ g1 = g.trk D) ∧ C.Rel σ1 g1 s.heap ∧ C.VR g1 s.heap u (.ref D) := by
  subst hs
  cases m with
  | zero => cases hb; exact ⟨_, .inl rfl, R.frz hn hr.live, hr.vr (R.notSys hf)⟩
  | succ m =>
    cases hb
    refine ⟨_, .inr rfl, R.trk hn hf (hr.ob fun q => hn (R.rel.lkμ _ q)), .ref ?_⟩
    show (g.μ ++ [D])[σ.length]? = some D
    rw [← R.rel.len]; simp
theorem comp_ev_eq {elt it cond : PE} {t : Tgt} {m : Nat} {u : PV} {σ9 : AH} (hp : ev c (.comp elt t it cond) m ρ σ = .ok u σ9) : ∃ v σ1 l vs σ2, ev c it 0 ρ σ = .ok v σ1 ∧ items σ1 v = some l ∧ compL (ev c cond 0) (ev c elt m.pred) t (kill (tgtSlots t) ρ) l (lockV σ1 v true) = .ok vs σ2 ∧ vs.length ≤ 1000000 ∧
    box m (.list vs) (lockV σ2 v (lkV σ1 v)) = .ok u σ9 := by
  rw [e_comp] at hp
  refine byC fun hZ => ?_
  obtain ⟨v, σ1, r1, hp⟩ := bind_inv hp
  refine hZ ?_; clear hZ
  rw [k_comp1] at hp
  cases hi : items σ1 v with
  | none => rw [hi] at hp; cases hp
  | some l =>
    rw [hi, k_compI] at hp
    refine byC fun hZ => ?_
    obtain ⟨vs, σ3, r3, hp⟩ := bind_inv hp
    refine hZ ?_; clear hZ
    cases r2 : compL (ev c cond 0) (ev c elt m.pred) t (kill (tgtSlots t) ρ) l (lockV σ1 v true) with
    | exc => rw [r2] at r3; cases r3
    | bad => rw [r2] at r3; cases r3
    | ok vs' σ2 =>
      rw [r2] at r3
      cases r3
      rw [k_comp2] at hp
      by_cases hs : small vs.length = true
      · rw [if_pos hs] at hp
        exact ⟨v, σ1, l, vs, σ2, r1, hi, r2, of_decide_eq_true hs, hp⟩
      · rw [if_neg hs] at hp; cases hp

theorem comp_of {v : Expr} {e : PE} (hcv : isComp v = true) (c3 : chkE e nm vm v = true) : ∃ elt t it cond, e = .comp elt t it cond := by
  have key : ∀ {w}, (∃ x p, v = .Name x p) ∨ v = w → isComp w = false → False := fun h hw => by
    rcases h with ⟨_, _, rfl⟩ | rfl
    · cases hcv
    · rw [hw] at hcv; cases hcv
  cases e with
  | comp elt t it cond => exact ⟨_, _, _, _, rfl⟩
  | const => obtain ⟨_, _, _, h⟩ := fmConst c3; exact (key (.inr h) rfl).elim
  | loc => exact (key (w := v) (.inl (fmName c3)) (by obtain ⟨_, _, rfl⟩ := fmName c3; rfl)).elim
  | glob => exact (key (w := v) (.inl (fmName c3)) (by obtain ⟨_, _, rfl⟩ := fmName c3; rfl)).elim
  | andE => obtain ⟨_, _, _, h⟩ := fmBool c3; exact (key (.inr h) rfl).elim
  | orE => obtain ⟨_, _, _, h⟩ := fmBool c3; exact (key (.inr h) rfl).elim
  | bin => obtain ⟨_, _, _, _, h⟩ := fmBin c3; exact (key (.inr h) rfl).elim
  | notE => obtain ⟨_, _, _, h⟩ := fmUn c3; exact (key (.inr h) rfl).elim
  | neg => obtain ⟨_, _, _, h⟩ := fmUn c3; exact (key (.inr h) rfl).elim
  | cmp => obtain ⟨_, _, _, _, h⟩ := fmCmp c3; exact (key (.inr h) rfl).elim
  | tup => obtain ⟨_, _, _, h⟩ := fmTup c3; exact (key (.inr h) rfl).elim
  | lst => obtain ⟨_, _, h⟩ := fmLst c3; exact (key (.inr h) rfl).elim
  | edict => obtain ⟨_, h⟩ := fmEDict c3; exact (key (.inr h) rfl).elim
  | idx => obtain ⟨_, _, _, h⟩ := fmSub c3; exact (key (.inr h) rfl).elim
  | sliceF => obtain ⟨_, _, _, h⟩ := fmSub c3; exact (key (.inr h) rfl).elim
  | sliceFT => obtain ⟨_, _, _, h⟩ := fmSub c3; exact (key (.inr h) rfl).elim
  | attr => obtain ⟨_, _, _, h⟩ := fmAttr c3; exact (key (.inr h) rfl).elim
  | umeth => obtain ⟨_, _, _, h⟩ := fmCall c3; exact (key (.inr h) rfl).elim
  | new => obtain ⟨_, _, _, h⟩ := fmCall c3; exact (key (.inr h) rfl).elim
  | call => obtain ⟨_, _, _, h⟩ := fmCall c3; exact (key (.inr h) rfl).elim
  | bi => obtain ⟨_, _, _, h⟩ := fmCall c3; exact (key (.inr h) rfl).elim
  | meth => obtain ⟨_, _, _, h⟩ := fmCall c3; exact (key (.inr h) rfl).elim
theorem sndS_assign {i m : Nat} {e : PE} (h : SndE C c d e) (hsub : ∀ elt t it cond, e = .comp elt t it cond → SndE C c d it ∧ SndE C c d elt ∧ SndT C c d cond) : SndS C c d (.assign i m e) := by
  intro nm vm st env ρ σ g s A Q E hc F R hA hp
  refine byC fun hZ => ?_
  obtain ⟨tgts, v, pos, rfl⟩ := fmAssign hc
  refine hZ ?_; clear hZ
  rcases tgts with _ | ⟨tg, _ | ⟨t2, ts⟩⟩
  · exact absurd (show false = true from hc) Bool.false_ne_true
  · refine byC fun hZ => ?_
    obtain ⟨x, p, rfl⟩ := fmName hc
    obtain ⟨c12, c3⟩ := and2 (show (vm.lookup x == some i && isOwn (nm.lookup x) && chkE e nm vm v) = true from hc)
    obtain ⟨c1, c2⟩ := and2 c12
    have c1 : vm.lookup x = some i := by simpa using c1
    obtain ⟨u, σ1, r1, hp1⟩ := hp.bindX
    refine hZ ?_; clear hZ
    have plain : swapsWith v (some (.Name x p)) pos.line env = pure false → wpAny (model C.prog C.w) A (PySem.exec (.Assign [.Name x p] v pos) env) Q E s := fun hs => by
      refine wpAny_Assign_Name (h nm vm v env m ρ σ g s A _ _ c3 F R hA (PostE.mk r1 fun g1 s1 y e1 R1 v1 => ?_)) hs
      exact assign_store (F.ext R e1) R1 c1 c2 v1 fun s2 F2 R2 e2 => hp1 g1 s2 .next (e1.weaken.trans e2) R2 F2 rfl
    cases hcv : isComp v with
    | false => exact plain (swaps_notComp hcv)
    | true =>
      refine byC fun hZ => ?_
      obtain ⟨elt, t, it, cond, rfl⟩ := comp_of hcv c3
      obtain ⟨hI, hE, hT⟩ := hsub _ _ _ _ rfl
      obtain ⟨e', tg, it', ifs, sc, pos', rfl, d1, ok, d3, d4, d5, d6⟩ := comp_chk c3
      obtain ⟨bq, hbq⟩ : ∃ b : Bool, swapsWith (.ListComp e' [⟨tg, it', ifs, 0⟩] sc pos') (some (.Name x p)) pos.line env = pure b := ⟨_, rfl⟩
      refine hZ ?_; clear hZ
      cases bq with
      | false => exact plain hbq
      | true =>
        rw [exec_Assign_use x p _ pos hbq]
        refine wpAny_bind (wpAny_standAt (wpAny_bind ?_))
        refine byC fun hZ => ?_
        obtain ⟨w, σ2, l, vs, σ3, q1, hi, q2, hl, hbx⟩ := comp_ev_eq r1
        refine hZ ?_; clear hZ
        show wpAny _ _ (comprehension (.ListComp e' [⟨tg, it', ifs, 0⟩] sc pos') sc env (firstIterPos [⟨tg, it', ifs, 0⟩] pos') (newList []) false (eval it' env) (some (assign (.Name x p) env)) >>= fun _ => pure ()) _ _ _
        refine wpAny_bind (wpAny_comprehension_free (use := some (assign (.Name x p) env)) rfl (fun x => folded_plain (chk_plain d1)) (closure_eq (F.freeCells ok)) ok.kind ok.names ?_)
        refine comp_enter (RR := fun acc L => compPost (model C.prog C.w) A E (some (assign (.Name x p) env)) _ acc L) hI hE hT hA F R d1 ok d3 d4 d5 d6 q1 hi q2 hl fun D L g' s' X => ?_
        refine byC fun hZ => ?_
        obtain ⟨ws, w1, w2⟩ := X.acc
        obtain ⟨g1, hg1, R1, v1⟩ := box_mk (s := s') hbx X.rel X.offD.1 X.offD.2 rfl ⟨ws, w1, w2⟩
        refine hZ ?_; clear hZ
        have e1 : Ext noOwn g s g1 s' := by
          rcases hg1 with rfl | rfl
          · exact X.ext.frz X.newD
          · exact X.ext.trk X.newD
        have offL1 : L ∉ g1.μ ∧ ¬ g1.Φ L := by
          rcases hg1 with rfl | rfl
          · exact ⟨X.offL.1, fun q => q.elim X.offL.2 X.LD⟩
          · exact ⟨fun q => (List.mem_append.mp q).elim X.offL.1 fun q => X.LD (List.mem_singleton.mp q), X.offL.2⟩
        have F1 := F.ext R e1
        obtain ⟨mL, hn⟩ := X.ns
        show wpAny _ _ (assign (.Name x p) env (.ref D)) _ _ _
        refine assign_name (assign_store F1 R1 c1 c2 v1 fun s2 F2 R2 e2 => ?_)
        have hLl : ∀ b, ownOf env b → b ≠ L := fun b hb q => by
          subst q
          rcases hb with hb | ⟨z, hz⟩
          · refine byC fun hZ => ?_
            obtain ⟨m', n1, _⟩ := F.ns
            obtain ⟨o, ho⟩ := Heap.Ns.live n1
            refine hZ ?_; clear hZ
            rw [← hb, X.newL] at ho; cases ho
          · refine byC fun hZ => ?_
            obtain ⟨o, ob, ho, _⟩ := F.cliv z b hz
            refine hZ ?_; clear hZ
            rw [X.newL] at ho; cases ho
        refine ⟨mL, ?_, fun h' hs => wpAny_pure (wpAny_pure ?_)⟩
        · obtain ⟨o, es, ep, ho, r⟩ := hn
          exact ⟨o, es, ep, e2.keep _ _ ho (.inl offL1.1) (fun q => hLl L q rfl), r⟩
        · have hk' : ∀ b o, b ≠ L → s2.heap.get? b = some o → h'.get? b = some o := fun b o hb e => by rw [hs.2 b hb]; exact e
          have kept : Kept g1 s2.heap h' := .of_but hk' offL1
          have hoff : Off (· = L) g1 := fun b hb => by subst hb; exact offL1
          have e3 : Ext (ownOf env) g s g1 s2 := e1.weaken.trans e2
          have e4 : Ext (ownOf env) g s g1 { s2 with heap := h' } := ⟨e3.pre, e3.sub, e3.newμ, e3.newΦ, e3.lock, fun b o e q1 q2 => hk' b o (fun q => by rw [q, X.newL] at e; cases e) (e3.keep b o e q1 q2), fun b hb => by
            obtain ⟨o, ho⟩ := Option.isSome_iff_exists.mp (e3.live b hb)
            exact isSome_of (hk' b o (fun q => by rw [q, X.newL] at hb; cases hb) ho), e3.gens, e3.os⟩
          refine hp1 g1 _ .next e4 (R2.kept kept) ?_ rfl
          have hLn : ∀ b, (s.heap.get? b).isSome = true → b ≠ L := fun b hb q => by rw [q, X.newL] at hb; cases hb
          refine byC fun hZ => ?_
          obtain ⟨m', n1, n2⟩ := F2.ns
          refine hZ ?_; clear hZ
          refine ⟨F2.kind, F2.names, F2.glob, F2.blt, F2.inj, ⟨m', ?_, fun x i v a1 a2 a3 a4 => ?_⟩, fun x i a1 a2 => ?_, F2.offL, F2.offC, fun x cc b1 => ?_, F2.apart⟩
          · obtain ⟨o, es, ep, ho, r⟩ := n1
            exact ⟨o, es, ep, hk' _ _ (hLl _ (.inl rfl)) ho, r⟩
          · obtain ⟨y, b1, b2⟩ := n2 x i v a1 a2 a3 a4; exact ⟨y, b1, VR_kept (C := C) kept b2⟩
          · refine byC fun hZ => ?_
            obtain ⟨cc, o, b1, ⟨ob, b2, b2'⟩, b3⟩ := F2.cl x i a1 a2
            refine hZ ?_; clear hZ
            exact ⟨cc, o, b1, ⟨ob, hk' _ _ (hLl _ (.inr ⟨x, b1⟩)) b2, b2'⟩, fun v a3 a4 => let ⟨y, c1, c2⟩ := b3 v a3 a4; ⟨y, c1, VR_kept (C := C) kept c2⟩⟩
          · obtain ⟨o, ob, b2, b2'⟩ := F2.cliv x cc b1
            exact ⟨o, ob, hk' _ _ (hLl _ (.inr ⟨x, b1⟩)) b2, b2'⟩
  · exact absurd (show false = true from hc) Bool.false_ne_true

theorem swapped_none {es : List Expr} {cx} {p : Pos} {v : Expr} (h : isTupE v = false) : swappedStores [.Tuple es cx p] v env = pure none := by
  cases v <;> first | rfl | cases h
theorem swaps_tuple {e : Expr} {es : List Expr} {cx} {p : Pos} {n : Nat} (F : FR C nm vm env ρ g h) : swapsWith e (some (.Tuple es cx p)) n env = pure false := by
  cases e <;> rfl

theorem sndS_assignT {is : List Nat} {e : PE} (h : SndE C c d e) : SndS C c d (.assignT is e) := by
  intro nm vm st env ρ σ g s A Q E hc F R hA hp
  refine byC fun hZ => ?_
  obtain ⟨tgts, v, pos, rfl⟩ := fmAssign hc
  refine hZ ?_; clear hZ
  rcases tgts with _ | ⟨tg, _ | ⟨t2, ts⟩⟩
  · exact absurd (show false = true from hc) Bool.false_ne_true
  · refine byC fun hZ => ?_
    obtain ⟨es, cx, p, rfl⟩ := fmTup hc
    obtain ⟨c12, c3⟩ := and2 (show (!isTupE v && chkNames nm vm is es && chkE e nm vm v) = true from hc)
    obtain ⟨c1, c2⟩ := and2 c12
    have c1 : isTupE v = false := by simpa using c1
    obtain ⟨u, σ1, r1, hp⟩ := hp.bindX
    refine hZ ?_; clear hZ
    have e0 : PySem.exec (.Assign [.Tuple es cx p] v pos) env = (do
        standAt pos
        if ← swapsWith v (some (.Tuple es cx p)) pos.line env then do
          evalThenUse v env fun v => assignAll v ((assignEach [.Tuple es cx p] env).map (·.2))
          pure .next
        else do
          let x ← eval v env
          assignStores env x (← swappedStores [.Tuple es cx p] v env) ((assignEach [.Tuple es cx p] env).map (·.2))) := rfl
    rw [e0, swaps_tuple F, swapped_none c1]
    refine wpAny_bind (wpAny_standAt (wpAny_bind (wpAny_pure ?_)))
    simp only [Bool.false_eq_true, if_false]
    refine wpAny_bind (h nm vm v env 0 ρ σ g s A _ _ c3 F R hA (PostE.mk r1 fun g1 s1 y e1 R1 v1 => wpAny_bind (wpAny_pure ?_)))
    show wpAny _ _ (assign (.Tuple es cx p) env y >>= fun _ => pure Flow.next) _ _ _
    cases hb : bindT (.many is) u ρ with
    | none => rw [hb] at hp; exact hp.elim
    | some ρ1 =>
      rw [hb] at hp
      have F1 := F.ext R e1
      refine wpAny_bind (assign_sound (own := ownOf env) (t := .many is) hA.hand F1.off (.inl rfl) (show chkT nm vm (.many is) (.Tuple es cx p) = true from c2) F1 R1 v1 (fun x _ _ cc hcc => .inr ⟨x, hcc⟩) hb fun s2 F2 R2 e2 => wpAny_pure ?_)
      exact hp g1 s2 .next (e1.weaken.trans e2) R2 F2 rfl
  · exact absurd (show false = true from hc) Bool.false_ne_true

/-! ### setting an item -/
theorem setAt_sound {Q : Unit → Shared → Prop} (R : C.Rel σ g s.heap) {a k v : PV} {x y z : Value} (hx : C.VR g s.heap a x) (hk : C.VR g s.heap k y) (hv : C.VR g s.heap v z) {σ4 : AH} (he : setAt σ a k v = some σ4)
    (hq : ∀ g' s', Ext noOwn g s g' s' → C.Rel σ4 g' s'.heap → Q () s') : wpAny (model C.prog C.w) A (setItem x y z) Q E s := by
  rcases two_elim (fun o => o = some σ4) he with ⟨r, i, e1, e2, he⟩ | he
  · rw [refOf_eq e1] at hx
    refine byC fun hZ => ?_
    obtain ⟨p, rfl, hi⟩ := VR_inv hx
    obtain ⟨t, rfl⟩ := str_vr e2 hk
    obtain ⟨l, e, he⟩ := bind_elim (fun o => o = some σ4) (fun q => nomatch q) he
    refine hZ ?_; clear hZ
    split at he
    · rename_i hc
      cases he
      refine byC fun hZ => ?_
      obtain ⟨hl, kvs, h3, h4⟩ := tracked_dict R (openD_eq e) hi
      refine hZ ?_; clear hZ
      have h5 := h4.length
      have hm := small_le hc
      refine wpAny_setItem_pairs (strKind_is C.prog C.w i t) h3 (fun h' hd hsb => ?_) (by rw [← h5, sizeLine_eq]; exact om250 hm)
      have hk' : ∀ b o, b ≠ p → s.heap.get? b = some o → h'.get? b = some o := fun b o hb e => by rw [hsb.2 b hb]; exact e
      have hf := R.rel.disj p (List.mem_of_getElem? hi)
      refine hq g _ (set_ext (List.mem_of_getElem? hi) hl hk' (let ⟨o, es, ep, e, _⟩ := hd; isSome_of e)) (R.set hi hk' ⟨⟨fun q => (nomatch q), fun q => (hl q).elim⟩, _, hd, ?_⟩)
      exact (vrd_but (C := C) hf hk' h4).put (vr_but (C := C) hf hk' hv)
    · cases he
  · cases he

theorem swaps_sub {e o i : Expr} {p : Pos} {n : Nat} : swapsWith e (some (.Subscript o i p)) n env = pure false := by
  cases e <;> rfl

theorem sndS_setitem {o i v : PE} {m : Nat} (ho : SndE C c d o) (hi : SndE C c d i) (hv : SndE C c d v) : SndS C c d (.setitem o i m v) := by
  intro nm vm st env ρ σ g s A Q E hc F R hA hp
  refine byC fun hZ => ?_
  obtain ⟨tgts, w, pos, rfl⟩ := fmAssign hc
  refine hZ ?_; clear hZ
  rcases tgts with _ | ⟨tg, _ | ⟨t2, ts⟩⟩
  · exact absurd (show false = true from hc) Bool.false_ne_true
  · refine byC fun hZ => ?_
    obtain ⟨o', i', p, rfl⟩ := fmSub hc
    obtain ⟨c12, c3⟩ := and2 (show (chkE o nm vm o' && chkE i nm vm i' && chkE v nm vm w) = true from hc)
    obtain ⟨c1, c2⟩ := and2 c12
    obtain ⟨x, σ1, r1, hp⟩ := hp.bindX
    obtain ⟨a, σ2, r2, hp⟩ := hp.bindX
    obtain ⟨k, σ3, r3, hp⟩ := hp.bindX
    refine hZ ?_; clear hZ
    refine wpAny_Assign_Subscript (hv nm vm w env m ρ σ g s A _ _ c3 F R hA (PostE.mk r1 fun g1 s1 vx e1 R1 v1 => ?_)) swaps_sub
    refine ho nm vm o' env 0 ρ σ1 g1 s1 A _ _ c1 (F.ext R e1) R1 hA (PostE.mk r2 fun g2 s2 va e2 R2 v2 => ?_)
    refine hi nm vm i' env 0 ρ σ2 g2 s2 A _ _ c2 ((F.ext R e1).ext R1 e2) R2 hA (PostE.mk r3 fun g3 s3 vk e3 R3 v3 => ?_)
    cases hs : setAt σ3 a k x with
    | none => rw [hs] at hp; exact hp.elim
    | some σ4 =>
      rw [hs] at hp
      refine setAt_sound R3 (VR_ext R2 e3 Off.none v2) v3 (VR_ext R1 (e2.trans e3) Off.none v1) hs fun g4 s4 e4 R4 => ?_
      have e := ((e1.trans e2).trans e3).trans e4
      exact hp g4 s4 .next e.weaken R4 (F.ext R e) rfl
  · exact absurd (show false = true from hc) Bool.false_ne_true

/-! ### setting an attribute -/
theorem nsr_put {l : List (Str × PV)} {m : Str → Option Value} {k : Str} {v : PV} {x : Value} (q : NsR C.prog C.w g h l m) (hv : C.VR g h v x) : NsR C.prog C.w g h (dput l k v) (fun y => if y = k then some x else m y) := by
  intro y
  rw [dget_put]
  by_cases e : y = k
  · subst e
    simp only [if_true]
    exact ⟨fun u hu => ⟨x, rfl, by cases hu; exact hv⟩, fun hu => nomatch hu⟩
  · rw [if_neg e]
    simp only [e, if_false]
    exact q y
theorem nsr_within {l : List (Str × PV)} {m : Str → Option Value} (q : NsR C.prog C.w g h l m) : Within m (l.map (·.1)) := fun y hy => by
  cases hd : dget l y with
  | none => exact absurd ((q y).2 hd) hy
  | some v => exact List.mem_map.mpr ⟨_, mem_of_dget hd, rfl⟩
theorem setattr_sound {Q : Unit → Shared → Prop} (X : CxOK C c d) (R : C.Rel σ g s.heap) {a v : PV} {x z : Value} {n : Str} (hx : C.VR g s.heap a x) (hv : C.VR g s.heap v z) {σ4 : AH} (he : setattrP c σ a n v = some σ4)
    (hq : ∀ g' s', Ext noOwn g s g' s' → C.Rel σ4 g' s'.heap → Q () s') : wpAny (model C.prog C.w) A (setAttr x n z) Q E s := by
  refine byC fun hZ => ?_
  obtain ⟨⟨k, dd, l⟩, hi, he2⟩ := bind_elim (fun o => o = some σ4) (fun q => nomatch q) he
  refine hZ ?_; clear hZ
  clear he
  have he3 : (if c.atr n && small l.length then some (σ.set dd (.ns (dput l n v))) else none) = some σ4 := he2
  clear he2
  split at he3
  · rename_i hat
    cases he3
    refine byC fun hZ => ?_
    obtain ⟨hat, hsm⟩ := Bool.and_eq_true_iff.mp hat
    obtain ⟨i, a', dx, I, mm, rfl, rfl, q1, q2, q3, q4, q5, q6, q7, q8, q9, q10, q11⟩ := inst_sound R hx hi
    have ok := X.cls k I q5
    obtain ⟨hh, gg, dr, tk, os⟩ := s
    obtain ⟨ox, w1, w2, w3, w4, w5⟩ := id q6
    obtain ⟨nm', q, bs, sn, sub, col, dd', k0, k1, k2, k3, k5, hC⟩ := (ok.cls.keeps R.rel.base).obj
    refine hZ ?_; clear hZ
    have hmi := List.mem_of_getElem? q3
    have hmd := List.mem_of_getElem? q4
    have hxC : a' ≠ I.C := fun e => by
      refine byC fun hZ => ?_
      obtain ⟨_, _, _, _, _, _, _, _, _, _, _, _, hC0⟩ := ok.cls.obj
      refine hZ ?_; clear hZ
      have := R.rel.baseμ a' hmi
      rw [e, hC0] at this; cases this
    refine store_attr PySem.F.store_object hC (ok.cls.keeps R.rel.base).ns ok.nset (ok.quiet n hat) (X.atr n hat) hxC q9 (fun h' tk' I' hk hsame => ?_) (nsr_within q8) (by rw [List.length_map, sizeLine_eq]; have := small_le hsm; exact om250 this)
    have hk' : ∀ b ob, b ≠ a' → b ≠ dx → hh.get? b = some ob → h'.get? b = some ob := fun b ob h1 h2 e => hk b ob h1 (fun o₀ dx' e1 e2 => by
      cases w1.symm.trans e1
      cases w4.symm.trans e2
      exact h2) e
    refine byC fun hZ => ?_
    obtain ⟨o1, u1, u2, u3, u4, u5⟩ := hsame ox w1
    have u5 := u5 dx w4
    obtain ⟨o2, t1, t2, t3, t4⟩ := I'
    refine hZ ?_; clear hZ
    cases u1.symm.trans t1
    have hns : h'.Ns1 dx fun y => if y = n then some z else mm y := by
      rcases t4 with ⟨e, _⟩ | ⟨d2, e, _, e2⟩
      · rw [u5] at e; cases e
      · cases u5.symm.trans e; exact e2
    have hfd : ¬ g.Φ dx := R.rel.disj dx hmd
    have hfa : ¬ g.Φ a' := R.rel.disj a' hmi
    have kΦ : ∀ b ob, g.Φ b → hh.get? b = some ob → h'.get? b = some ob := fun b ob hb e => hk' b ob (fun q => hfa (q ▸ hb)) (fun q => hfd (q ▸ hb)) e
    have q8' : NsR C.prog C.w g h' (dput l n v) (fun y => if y = n then some z else mm y) := NsR.mono (List.prefix_refl g.μ) (fun _ q => q) kΦ (nsr_put q8 hv)
    have R' : C.Rel (σ.set dd (.ns (dput l n v))) g h' := R.set2 q1 q3 q4 hk' ⟨q10, I, dx, q5, q4, o1, u1, u2.trans w2, fun c => u3 ▸ w3 c, u5, w5⟩ ⟨q11, _, hns, q8'⟩
    refine hq g ⟨h', gg, dr, tk', os⟩ (Ext.heap (s := ⟨hh, gg, dr, tk, os⟩) (fun b o e hb _ => ?_) fun b hb => ?_) R'
    · rcases hb with hb | hb
      · exact hk' b o (fun q => hb (q ▸ hmi)) (fun q => hb (q ▸ hmd)) e
      · exact hk' b o (fun q => q10 (q ▸ hb)) (fun q => q11 (q ▸ hb)) e
    · obtain ⟨o, ho⟩ := Option.isSome_iff_exists.mp hb
      by_cases h1 : b = a'
      · subst h1; exact isSome_of u1
      · by_cases h2 : b = dx
        · subst h2; obtain ⟨o', _, _, e, _⟩ := hns; exact isSome_of e
        · exact isSome_of (hk' b o h1 h2 ho)
  · cases he3
theorem swaps_attr {e o : Expr} {x : Str} {p : Pos} {n : Nat} : swapsWith e (some (.Attribute o x p)) n env = pure false := by
  cases e <;> rfl
theorem sndS_setattr (X : CxOK C c d) {o v : PE} {x : Str} {m : Nat} (ho : SndE C c d o) (hv : SndE C c d v) : SndS C c d (.setattr o x m v) := by
  intro nm vm st env ρ σ g s A Q E hc F R hA hp
  refine byC fun hZ => ?_
  obtain ⟨tgts, w, pos, rfl⟩ := fmAssign hc
  refine hZ ?_; clear hZ
  rcases tgts with _ | ⟨tg, _ | ⟨t2, ts⟩⟩
  · exact absurd (show false = true from hc) Bool.false_ne_true
  · refine byC fun hZ => ?_
    obtain ⟨o', y, p, rfl⟩ := fmAttr hc
    obtain ⟨c12, c3⟩ := and2 (show (y == x && chkE o nm vm o' && chkE v nm vm w) = true from hc)
    obtain ⟨c1, c2⟩ := and2 c12
    refine hZ ?_; clear hZ
    have c1 : y = x := by simpa using c1
    subst c1
    refine byC fun hZ => ?_
    obtain ⟨u, σ1, r1, hp⟩ := hp.bindX
    obtain ⟨a, σ2, r2, hp⟩ := hp.bindX
    refine hZ ?_; clear hZ
    refine plainObj_wpAny_Assign_Attribute (hv nm vm w env m ρ σ g s A _ _ c3 F R hA (PostE.mk r1 fun g1 s1 vx e1 R1 v1 => ?_)) swaps_attr
    refine ho nm vm o' env 0 ρ σ1 g1 s1 A _ _ c2 (F.ext R e1) R1 hA (PostE.mk r2 fun g2 s2 va e2 R2 v2 => ?_)
    cases hs : setattrP c σ2 a y u with
    | none => rw [hs] at hp; exact hp.elim
    | some σ4 =>
      rw [hs] at hp
      refine setattr_sound X R2 v2 (VR_ext R1 e2 Off.none v1) hs fun g4 s4 e4 R4 => ?_
      have e := (e1.trans e2).trans e4
      exact hp g4 s4 .next e.weaken R4 (F.ext R e) rfl
  · exact absurd (show false = true from hc) Bool.false_ne_true
end Mine

set_option autoImplicit false
set_option backward.match.sparseCases true
set_option linter.unusedVariables false
namespace Mine
open PySem PyProof.Rows PySem.SeqAt

variable {C : Fix} {c : Cx} {σ σ' : AH} {g g' : Cfg} {h h' : Heap} {s s' : Shared} {own : Addr → Prop} {A : Around} {d : Nat} {nm : NM} {vm : VM} {env : Env} {ρ : List PV}
  {Q : Flow → Shared → Prop} {E : Value → Shared → Prop}

theorem FR.kill (F : FR C nm vm env ρ g h) (ks : List Nat) : FR C nm vm env (Mine.kill ks ρ) g h := F.sub fun i v h1 h2 => (kill_get h1 h2).2

/-- the loop's state -/
structure LS (C : Fix) (I : Addr) (fp : List Addr) (St : Nat → Heap → Prop) (nm : NM) (vm : VM) (env : Env) (ρ : List PV) (i : Nat) (σ : AH) (g : Cfg) (s : Shared) : Prop where
  rel : C.Rel σ g s.heap
  fr : FR C nm vm env ρ g s.heap
  st : St i s.heap
  offI : I ∉ g.μ ∧ ¬ g.Φ I
  liveI : ∃ o, s.heap.get? I = some o
  keep : ∀ b ∈ fp, (b ∉ g.μ ∨ g.lk b) ∧ ¬ ownOf env b ∧ ∃ o, s.heap.get? b = some o

variable {I : Addr} {fp : List Addr} {St : Nat → Heap → Prop} {i n : Nat} {P : Nat → Value → Prop}

theorem LS.body (x : LS C I fp St nm vm env ρ i σ g s) (W : Walks C.prog C.w A I fp [I] n P St) (hI : I ∈ fp) {ρ' : List PV} (e : Ext (ownOf env) g s g' s') (R' : C.Rel σ' g' s'.heap) (F' : FR C nm vm env ρ' g' s'.heap) : LS C I fp St nm vm env ρ' i σ' g' s' where
  rel := R'
  fr := F'
  st := W.frame _ _ _ x.st fun b hb o ho => e.keep b o ho (x.keep b hb).1 (x.keep b hb).2.1
  offI := by obtain ⟨o, ho⟩ := x.liveI; exact ⟨e.notμ ho x.offI.1, e.notΦ ho x.offI.2⟩
  liveI := by obtain ⟨o, ho⟩ := x.liveI; exact ⟨o, e.keep _ _ ho (.inl x.offI.1) (x.keep I hI).2.1⟩
  keep := fun b hb => by
    obtain ⟨k1, k2, o, ho⟩ := x.keep b hb
    exact ⟨k1.imp (e.notμ ho) fun q => by rw [e.lock]; exact q, k2, o, e.keep b o ho k1 k2⟩

theorem LS.next (hI : I ∈ fp) (x : LS C I fp St nm vm env ρ i σ g s) {h' : Heap} {tk j : Nat} (hk : ∀ b o, b ∉ [I] → s.heap.get? b = some o → h'.get? b = some o) (hst : St j h') (hI' : ∃ o, h'.get? I = some o) :
    LS C I fp St nm vm env ρ j σ g { s with heap := h', toks := tk } ∧ Ext (· = I) g s g { s with heap := h', toks := tk } := by
  have hk' : ∀ b o, b ≠ I → s.heap.get? b = some o → h'.get? b = some o := fun b o hb e => hk b o (by simpa using hb) e
  have e : Ext (· = I) g s g { s with heap := h', toks := tk } := Ext.heap (fun b o e _ hb => hk' b o hb e) fun b hb => by
    by_cases hbI : b = I
    · subst hbI; obtain ⟨o, ho⟩ := hI'; exact isSome_of ho
    · obtain ⟨o, ho⟩ := Option.isSome_iff_exists.mp hb; exact isSome_of (hk' b o hbI ho)
  have hoff : Off (· = I) g := fun b hb => by subst hb; exact x.offI
  have kept : Kept g s.heap h' := .of_but hk' x.offI
  have hno := (x.keep I hI).2.1
  refine ⟨⟨x.rel.kept kept, x.fr.ext' x.rel e hoff (fun q => hno (.inl q.symm)) (fun y cc hc q => hno (.inr ⟨y, q ▸ hc⟩)), hst, x.offI, hI', fun b hb => ⟨(x.keep b hb).1, (x.keep b hb).2.1, ?_⟩⟩, e⟩
  by_cases hbI : b = I
  · subst hbI; exact hI'
  · obtain ⟨o, ho⟩ := (x.keep b hb).2.2; exact ⟨o, hk' b o hbI ho⟩

noncomputable def ownI (env : Env) (I : Addr) : Addr → Prop := fun b => ownOf env b ∨ b = I

theorem forL_cons {body : List PV → AH → Res FE} {t : Tgt} {ks : List Nat} {x : PV} {xs : List PV} {r : FE} (h : forL body t ks (x :: xs) ρ σ = .ok r σ') : ∃ ρ1 r1 σ1, bindT t x (kill ks ρ) = some ρ1 ∧ body ρ1 σ = .ok r1 σ1 ∧
    (match r1.1 with
      | .next => forL body t ks xs r1.2 σ1 = .ok r σ'
      | .cont => forL body t ks xs r1.2 σ1 = .ok r σ'
      | .brk => (.next, kill ks r1.2) = r ∧ σ1 = σ'
      | .ret v => (.ret v, r1.2) = r ∧ σ1 = σ') := by
  rw [forL] at h
  cases hb : bindT t x (kill ks ρ) with
  | none => rw [hb] at h; cases h
  | some ρ1 =>
    rw [hb] at h
    simp only at h
    cases hr : body ρ1 σ with
    | exc => rw [hr] at h; cases h
    | bad => rw [hr] at h; cases h
    | ok r1 σ1 =>
      rw [hr] at h
      refine ⟨ρ1, r1, σ1, rfl, hr, ?_⟩
      simp only [Res.bind] at h
      obtain ⟨f, ρ2⟩ := r1
      cases f with
      | next => exact h
      | cont => exact h
      | brk => exact ok_inj h
      | ret v => exact ok_inj h

theorem for_loop {body : PSs} {t : Tgt} {ks : List Nat} {tg : Expr} {sts : List Stmt} {l : List PV} {gs : Cfg} {ss : Shared} {σs σE : AH} {rE : FE} {R : Result → Shared → Prop}
    (hB : SndSs C c d body) (hA : AOK A d) (W : Walks C.prog C.w A I fp [I] l.length P St) (hpl : ∀ i h, St i h → PlainIter h I) (hI : I ∈ fp)
    (hcB : chkSs body nm vm sts = true) (hcT : chkT nm vm t tg = true)
    (Rs : C.Rel σs gs ss.heap) (hP : ∀ i z u, P i z → l[i]? = some u → C.VR gs ss.heap u z) (hoff : Off (ownI env I) gs)
    (hR : ∀ gn sn h' tk fl, C.Rel σE gn h' → FR C nm vm env rE.2 gn h' → FlwR C gn h' rE.1 fl → Ext (ownI env I) gs ss gn sn → (∀ b o, b ≠ I → sn.heap.get? b = some o → h'.get? b = some o) → R (.ok fl) { sn with heap := h', toks := tk }) :
    ∀ (k i : Nat) (gi : Cfg) (si : Shared) (σi : AH) (ρi : List PV), i ≤ l.length → k = l.length - i → LS C I fp St nm vm env ρi i σi gi si → Ext (ownI env I) gs ss gi si → forL (execs c body) t ks (l.drop i) ρi σi = .ok rE σE →
      codeAny (model C.prog C.w) A (.forLoop tg (.ref I) sts [] env) R si := by
  intro k i gi si σi ρi hi hk X0 E0 hrun
  refine codeAny_forLoop_any (fun k s' => ∃ i gi σi ρi, i ≤ l.length ∧ k = l.length - i ∧ LS C I fp St nm vm env ρi i σi gi s' ∧ Ext (ownI env I) gs ss gi s' ∧ forL (execs c body) t ks (l.drop i) ρi σi = .ok rE σE) ?_ k ⟨i, gi, σi, ρi, hi, hk, X0, E0, hrun⟩
  clear hrun E0 X0 hk hi
  rintro k s' ⟨i, gi, σi, ρi, hi, rfl, X, E0, hrun⟩
  have hno := (X.keep I hI).2.1
  by_cases hin : i = l.length
  · subst hin
    rw [List.drop_length, forL] at hrun
    replace hrun := ok_inj hrun
    obtain ⟨rfl, rfl⟩ := hrun
    refine W.done s' _ _ X.st fun h' tk hk => ?_
    have hk' : ∀ b o, b ≠ I → s'.heap.get? b = some o → h'.get? b = some o := fun b o hb e => hk b o (by simpa using hb) e
    have kept : Kept gi s'.heap h' := .of_but hk' X.offI
    have F0 := X.fr.kill ks
    have hfr : FR C nm vm env (kill ks ρi) gi h' := by
      refine byC fun hZ => ?_
      obtain ⟨m', n1, n2⟩ := F0.ns
      refine hZ ?_; clear hZ
      refine ⟨F0.kind, F0.names, F0.glob, F0.blt, F0.inj, ⟨m', ?_, fun x i v a1 a2 a3 a4 => ?_⟩, fun x i a1 a2 => ?_, F0.offL, F0.offC, fun x cc b1 => ?_, F0.apart⟩
      · obtain ⟨o, es, ep, ho, r⟩ := n1
        exact ⟨o, es, ep, hk' _ _ (fun q => hno (.inl q.symm)) ho, r⟩
      · obtain ⟨y, b1, b2⟩ := n2 x i v a1 a2 a3 a4; exact ⟨y, b1, VR_kept (C := C) kept b2⟩
      · refine byC fun hZ => ?_
        obtain ⟨cc, o, b1, ⟨ob, b2, b2'⟩, b3⟩ := F0.cl x i a1 a2
        refine hZ ?_; clear hZ
        exact ⟨cc, o, b1, ⟨ob, hk' _ _ (fun q => hno (.inr ⟨x, q ▸ b1⟩)) b2, b2'⟩, fun v a3 a4 => let ⟨y, c1, c2⟩ := b3 v a3 a4; ⟨y, c1, VR_kept (C := C) kept c2⟩⟩
      · obtain ⟨o, ob, b2, b2'⟩ := F0.cliv x cc b1
        exact ⟨o, ob, hk' _ _ (fun q => hno (.inr ⟨x, q ▸ b1⟩)) b2, b2'⟩
    exact wpAny_execs_nil (hR gi s' h' tk .next (X.rel.kept kept) hfr rfl E0 hk')
  · have hlt : i < l.length := Nat.lt_of_le_of_ne hi hin
    have hdrop : l.drop i = l[i] :: l.drop (i + 1) := List.drop_eq_getElem_cons hlt
    rw [hdrop] at hrun
    refine byC fun hZ => ?_
    obtain ⟨ρ1, ⟨f1, ρ2⟩, σ1, hb, hr1, hr2⟩ := forL_cons hrun
    refine hZ ?_; clear hZ
    refine W.item i s' _ _ hlt X.st fun z h' tk hz hst hk => ?_
    refine byC fun hZ => ?_
    obtain ⟨ob, nI, q1, q2, q3⟩ := hpl (i + 1) h' hst
    obtain ⟨X1, e1⟩ := X.next hI (tk := tk) hk hst ⟨ob, q1⟩
    refine hZ ?_; clear hZ
    refine owned_go (.inl ⟨ob, nI, q1, q2, q3⟩) (chkT_list hcT) ?_
    have E1 := E0.trans (e1.mono fun a ha => .inr ha)
    have hv : C.VR gi h' l[i] z := VR_ext Rs E1 hoff (hP i z _ hz (by simp [hlt]))
    have F1 := X1.fr.kill ks
    refine assign_sound (own := ownOf env) hA.hand F1.off (.inl rfl) hcT F1 X1.rel hv (fun x _ _ cc hcc => .inr ⟨x, hcc⟩) hb fun s2 F2 R2 e2 => ?_
    have X2 := X1.body W hI e2 R2 F2
    have E2 := E1.trans (e2.mono fun a ha => .inl ha)
    refine hB nm vm sts env ρ1 σi gi s2 A _ _ hcB F2 R2 hA (PostX.mk hr1 fun g3 s3 fl e3 R3 F3 hf => ?_)
    have X3 := X2.body W hI e3 R3 F3
    have E3 := E2.trans (e3.mono fun a ha => .inl ha)
    have same : ∀ (fl : Flow), (∀ b o, b ≠ I → s3.heap.get? b = some o → s3.heap.get? b = some o) := fun _ b o _ e => e
    cases f1 with
    | next => cases hf; exact ⟨l.length - (i + 1), by exact om304 hlt, i + 1, g3, σ1, ρ2, by exact om32 hlt, rfl, X3, E3, hr2⟩
    | cont => cases hf; exact ⟨l.length - (i + 1), by exact om304 hlt, i + 1, g3, σ1, ρ2, by exact om32 hlt, rfl, X3, E3, hr2⟩
    | brk =>
      cases hf
      obtain ⟨rfl, rfl⟩ := hr2
      exact hR g3 s3 s3.heap s3.toks .next R3 (F3.kill ks) rfl E3 (same .next)
    | ret v =>
      obtain ⟨x, rfl, hv⟩ := hf
      obtain ⟨rfl, rfl⟩ := hr2
      exact hR g3 s3 s3.heap s3.toks (.ret x) R3 F3 ⟨x, rfl, hv⟩ E3 (same .next)

theorem FR.lk {L : Addr → Prop} (F : FR C nm vm env ρ g h) : FR C nm vm env ρ (g.withLk L) h :=
  ⟨F.kind, F.names, F.glob, F.blt, F.inj, let ⟨m, n1, n2⟩ := F.ns; ⟨m, n1, fun x i v a1 a2 a3 a4 => let ⟨y, b1, b2⟩ := n2 x i v a1 a2 a3 a4; ⟨y, b1, VR_lk b2⟩⟩,
    fun x i a1 a2 => let ⟨cc, ob, b1, b2, b3⟩ := F.cl x i a1 a2; ⟨cc, ob, b1, b2, fun v a3 a4 => let ⟨y, c1, c2⟩ := b3 v a3 a4; ⟨y, c1, VR_lk c2⟩⟩, F.offL, F.offC, F.cliv, F.apart⟩
theorem FlwR.lk {L : Addr → Prop} {f : Flw} {fl : Flow} (x : FlwR C g h f fl) : FlwR C (g.withLk L) h f fl := by
  cases f with
  | ret v => obtain ⟨y, h1, h2⟩ := x; exact ⟨y, h1, VR_lk h2⟩
  | _ => exact x

theorem Ext.dropTo {own2 : Addr → Prop} (x : Ext own g s g' s') {g2 : Cfg} {s2 : Shared} (y : Ext own2 g' s' g2 s2) (hn : ∀ a, own2 a → own a ∨ s.heap.get? a = none) : Ext own g s g2 s2 :=
  let z : Ext (fun a => own a ∨ own2 a) g s g2 s2 := (x.mono fun a ha => .inl ha).trans (y.mono fun a ha => .inr ha)
  { z with keep := fun b o e hb ho => z.keep b o e hb fun q => q.elim ho fun q => (hn b q).elim ho fun q => by rw [q] at e; cases e }
theorem Ext.afterTo (x : Ext own g s g' s') {tk : Nat} (hk : ∀ b o, b ≠ I → s'.heap.get? b = some o → h'.get? b = some o) (hI : s.heap.get? I = none) : Ext own g s g' { s' with heap := h', toks := tk } :=
  ⟨x.pre, x.sub, x.newμ, x.newΦ, x.lock, fun b o e q1 q2 => hk b o (fun q => by rw [q, hI] at e; cases e) (x.keep b o e q1 q2), fun b hb => by
    obtain ⟨o, ho⟩ := Option.isSome_iff_exists.mp (x.live b hb)
    exact isSome_of (hk b o (fun q => by rw [q, hI] at hb; cases hb) ho), x.gens, x.os⟩

theorem sndS_for {t : Tgt} {it : PE} {body : PSs} {ks : List Nat} (hIt : SndE C c d it) (hB : SndSs C c d body) : SndS C c d (.forS t it body ks) := by
  intro nm vm st env ρ σ g s A Q E hc F R hA hp
  refine byC fun hZ => ?_
  obtain ⟨tg, it', sts, pos, rfl⟩ := fmFor hc
  obtain ⟨c12, c3⟩ := and2 (show (chkT nm vm t tg && chkE it nm vm it' && chkSs body nm vm sts) = true from hc)
  obtain ⟨c1, c2⟩ := and2 c12
  obtain ⟨v, σ1, r1, hp⟩ := hp.bindX
  refine hZ ?_; clear hZ
  cases hi : items σ1 v with
  | none => rw [hi] at hp; exact hp.elim
  | some l =>
    rw [hi] at hp
    simp only at hp
    cases hr : forL (execs c body) t ks l ρ (lockV σ1 v true) with
    | exc => rw [hr] at hp; exact hp.elim
    | bad => rw [hr] at hp; exact hp.elim
    | ok rE σE =>
      rw [hr] at hp
      refine wpAny_For (hIt nm vm it' env 0 ρ σ g s A _ _ c2 F R hA (PostE.mk r1 fun g1 s1 x e1 R1 v1 => ?_)) (fun x => folded_plain (chk_plain c2))
      have F1 := F.ext R e1
      refine pyIter_sound hA.hand R1 v1 hi fun o fp P St W st hfp hP hpl => ?_
      generalize hI0 : s1.heap.objs.size = I at *
      have k1 : ∀ b ob, s1.heap.get? b = some ob → (s1.heap.push o).get? b = some ob := fun b ob e => Heap.get?_push_of_some _ e
      have hnone : s1.heap.get? I = none := hI0 ▸ get?_size _
      have offI : I ∉ g1.μ ∧ ¬ g1.Φ I := R1.fresh hnone
      have kept : Kept g1 s1.heap (s1.heap.push o) := .of_all k1
      have R2 : C.Rel σ1 g1 (s1.heap.push o) := R1.kept kept
      have RL : C.Rel (lockV σ1 v true) (g1.withLk (lockSet g1 v)) (s1.heap.push o) := lock_rel R2 (items_ref hi)
      have eP : Ext noOwn g1 s1 g1 { s1 with heap := s1.heap.push o } := Ext.all (tk := s1.toks) k1
      have F2 : FR C nm vm env ρ (g1.withLk (lockSet g1 v)) (s1.heap.push o) := (F1.ext R1 eP).lk
      have ownNe : ∀ b, ownOf env b → b ≠ I := fun b hb q => by
        subst q
        rcases hb with hb | ⟨z, hz⟩
        · refine byC fun hZ => ?_
          obtain ⟨m', n1, _⟩ := F1.ns
          obtain ⟨o, ho⟩ := Heap.Ns.live n1
          refine hZ ?_; clear hZ
          rw [← hb, hnone] at ho; cases ho
        · refine byC fun hZ => ?_
          obtain ⟨o, ob, ho, _⟩ := F1.cliv z b hz
          refine hZ ?_; clear hZ
          rw [hnone] at ho; cases ho
      have xlive : ∀ b, x = .ref b → (b ∉ g1.μ ∨ lockSet g1 v b) ∧ (∃ ob, s1.heap.get? b = some ob) ∧ ¬ ownOf env b := by
        rintro b rfl
        have dis : ∀ {a}, g1.Φ a → a ∉ g1.μ := fun hf hm => R1.rel.disj _ hm hf
        cases v1 with
        | tup h0 hl hr => obtain ⟨n, e⟩ := hl; exact ⟨.inl (dis h0), ⟨_, e⟩, fun q => (F1.off b q).2 h0⟩
        | lst h0 hl hr => obtain ⟨n, e⟩ := hl; exact ⟨.inl (dis h0), ⟨_, e⟩, fun q => (F1.off b q).2 h0⟩
        | dct h0 hm hl hr => obtain ⟨ob, _, _, e, _⟩ := hl; exact ⟨.inl (dis h0), ⟨_, e⟩, fun q => (F1.off b q).2 h0⟩
        | rng h0 hl => obtain ⟨_, _, _, _, _, e⟩ := hl; exact ⟨.inl (dis h0), ⟨_, e⟩, fun q => (F1.off b q).2 h0⟩
        | @ref j _ hj =>
          have hm := List.mem_of_getElem? hj
          refine ⟨.inr (.inr ⟨j, rfl, hj⟩), ?_, fun q => (F1.off b q).1 hm⟩
          cases hq : s1.heap.get? b with
          | none => exact absurd hm (R1.fresh hq).1
          | some ob => exact ⟨ob, rfl⟩
      refine byC fun hZ => ?_
      obtain ⟨obI, _, hobI, _⟩ := hpl 0 _ st
      refine hZ ?_; clear hZ
      have hIfp : I ∈ fp := W.sub I (List.mem_singleton.mpr rfl)
      have X0 : LS C I fp St nm vm env ρ 0 (lockV σ1 v true) (g1.withLk (lockSet g1 v)) { s1 with heap := s1.heap.push o } :=
        ⟨RL, F2, st, offI, ⟨obI, hobI⟩, fun b hb => by
          rcases hfp b hb with rfl | hx
          · exact ⟨.inl offI.1, fun q => ownNe b q rfl, obI, hobI⟩
          · obtain ⟨q1, ⟨ob, q2⟩, q3⟩ := xlive b hx; exact ⟨q1, q3, ob, k1 b ob q2⟩⟩
      have hoff3 : Off (ownI env I) (g1.withLk (lockSet g1 v)) := fun b hb => by
        rcases hb with hb | rfl
        · exact F1.off b hb
        · exact offI
      refine for_loop hB hA W hpl hIfp c3 c1 RL (fun i z u h1 h2 => VR_lk (VR_kept (C := C) kept (hP i z u h1 h2))) hoff3 ?_ l.length 0 _ _ _ ρ (Nat.zero_le _) rfl X0 (Ext.refl _ _) hr
      intro gn sn h' tk fl Rn Fn hf En hk
      have x1 : Ext (ownOf env) (g1.withLk (lockSet g1 v)) s1 gn sn := Ext.dropTo (Ext.all (tk := s1.toks) k1) En fun a ha => ha.imp id fun q => by rw [q]; exact hnone
      have x2 : Ext (ownOf env) (g1.withLk (lockSet g1 v)) s1 gn { sn with heap := h', toks := tk } := x1.afterTo hk hnone
      have x3 : Ext (ownOf env) g1 s1 (gn.withLk g1.lk) { sn with heap := h', toks := tk } := x2.relock fun b hb => .inl hb
      have hmu : ∀ i, v = .ref i → ∃ a, g1.μ[i]? = some a := by
        rintro i rfl; cases v1 with | ref hj => exact ⟨_, hj⟩
      exact hp (gn.withLk g1.lk) _ fl (e1.weaken.trans x3) (unlock_rel R1 Rn x2.pre x2.lock hmu (items_ref hi)) Fn.lk hf.lk

/-! ### while -/
theorem while_loop {t : PE} {body : PSs} {ks : List Nat} {tt : Expr} {sts : List Stmt} {gs : Cfg} {ss : Shared} {rE : FE} {σE : AH} {R : Result → Shared → Prop} (hT : SndT C c d t) (hB : SndSs C c d body) (hA : AOK A d)
    (hcT : chkE t nm vm tt = true) (hcB : chkSs body nm vm sts = true)
    (hR : ∀ gn sn fl, C.Rel σE gn sn.heap → FR C nm vm env rE.2 gn sn.heap → FlwR C gn sn.heap rE.1 fl → Ext (ownOf env) gs ss gn sn → R (.ok fl) sn) :
    ∀ (n : Nat) (gi : Cfg) (si : Shared) (σi : AH) (ρi : List PV), C.Rel σi gi si.heap → FR C nm vm env ρi gi si.heap → Ext (ownOf env) gs ss gi si → whileN (ev c t 0) (execs c body) ks n ρi σi = .ok rE σE →
      codeAny (model C.prog C.w) A (.whileLoop tt sts [] env) R si := by
  intro n gi si σi ρi R0 F0 E0 hrun
  refine codeAny_whileLoop (fun n s' => ∃ gi σi ρi, C.Rel σi gi s'.heap ∧ FR C nm vm env ρi gi s'.heap ∧ Ext (ownOf env) gs ss gi s' ∧ whileN (ev c t 0) (execs c body) ks n ρi σi = .ok rE σE) ?_ n ⟨gi, σi, ρi, R0, F0, E0, hrun⟩
  clear hrun E0 F0 R0
  rintro n s' ⟨gi, σi, ρi, R0, F0, E0, hrun⟩
  cases n with
  | zero => cases hrun
  | succ n =>
    rw [whileN] at hrun
    have Fk := F0.kill ks
    cases ht : ev c t 0 (kill ks ρi) σi with
    | exc => rw [ht] at hrun; cases hrun
    | bad => rw [ht] at hrun; cases hrun
    | ok b σ1 =>
      rw [ht] at hrun
      simp only [Res.bind] at hrun
      cases hb : truth σ1 b with
      | none => rw [hb] at hrun; cases hrun
      | some q =>
        rw [hb] at hrun
        refine hT nm vm tt env (kill ks ρi) σi gi s' A _ _ hcT Fk R0 hA (PostT.mk ht hb fun g1 s1 e1 R1 => ?_)
        have F1 := Fk.ext R0 e1
        have E1 := E0.trans e1.weaken
        cases q with
        | false =>
          obtain ⟨rfl, rfl⟩ := ok_inj hrun
          exact wpAny_execs_nil (hR g1 s1 .next R1 F1 rfl E1)
        | true =>
          simp only [if_true] at hrun ⊢
          cases hr : execs c body (kill ks ρi) σ1 with
          | exc => rw [hr] at hrun; cases hrun
          | bad => rw [hr] at hrun; cases hrun
          | ok r σ2 =>
            rw [hr] at hrun
            obtain ⟨f, ρ2⟩ := r
            refine hB nm vm sts env (kill ks ρi) σ1 g1 s1 A _ _ hcB F1 R1 hA (PostX.mk hr fun g2 s2 fl e2 R2 F2 hf => ?_)
            have E2 := E1.trans e2
            cases f with
            | next => cases hf; exact ⟨n, Nat.lt_succ_self _, g2, σ2, ρ2, R2, F2, E2, hrun⟩
            | cont => cases hf; exact ⟨n, Nat.lt_succ_self _, g2, σ2, ρ2, R2, F2, E2, hrun⟩
            | brk =>
              cases hf
              obtain ⟨rfl, rfl⟩ := ok_inj hrun
              exact hR g2 s2 .next R2 (F2.kill ks) rfl E2
            | ret v =>
              obtain ⟨x, rfl, hv⟩ := hf
              obtain ⟨rfl, rfl⟩ := ok_inj hrun
              exact hR g2 s2 (.ret x) R2 F2 ⟨x, rfl, hv⟩ E2

theorem sndS_while {t : PE} {body : PSs} {ks : List Nat} (hT : SndT C c d t) (hB : SndSs C c d body) : SndS C c d (.whileS t body ks) := by
  intro nm vm st env ρ σ g s A Q E hc F R hA hp
  refine byC fun hZ => ?_
  obtain ⟨tt, sts, pos, rfl⟩ := fmWhile hc
  obtain ⟨c1, c2⟩ := and2 (show (chkE t nm vm tt && chkSs body nm vm sts) = true from hc)
  refine hZ ?_; clear hZ
  have hp : PostX C nm vm env g s (whileW (ev c t 0) (execs c body) ks ρ σ) Q := hp
  cases hr : whileW (ev c t 0) (execs c body) ks ρ σ with
  | exc => rw [hr] at hp; exact hp.elim
  | bad => rw [hr] at hp; exact hp.elim
  | ok rE σE =>
    rw [hr] at hp
    obtain ⟨n, hn⟩ := whileW_spec (test := ev c t 0) (body := execs c body) (ks := ks) (ρ := ρ) (σ := σ) (by rw [hr]; intro q; cases q)
    rw [hr] at hn
    refine wpAny_While (while_loop hT hB hA c1 c2 ?_ n g s σ ρ R F (Ext.refl g s) hn)
    intro gn sn fl R1 F1 hf e1
    exact hp gn sn fl e1 R1 F1 hf

mutual
theorem sndS (K : C.OK) (X : CxOK C c d) : ∀ ps : PS, SndS C c d ps
  | .assign i m e => sndS_assign (sndP K X e).e fun elt t it cond _ => ⟨(sndP K X it).e, (sndP K X elt).e, (sndP K X cond).t⟩
  | .setitem o i m v => sndS_setitem (sndP K X o).e (sndP K X i).e (sndP K X v).e
  | .assignT is e => sndS_assignT (sndP K X e).e
  | .setattr o x m v => sndS_setattr X (sndP K X o).e (sndP K X v).e
  | .whileS t b ks => sndS_while (sndP K X t).t (sndSs K X b)
  | .expr e => sndS_expr (sndP K X e).e
  | .ret m e => sndS_ret (sndP K X e).e
  | .ite t a b => sndS_ite (sndP K X t).t (sndSs K X a) (sndSs K X b)
  | .forS t it body ks => sndS_for (sndP K X it).e (sndSs K X body)
theorem sndSs (K : C.OK) (X : CxOK C c d) : ∀ ps : PSs, SndSs C c d ps
  | .nil => sndSs_nil
  | .cons p ps => sndSs_cons (sndS K X p) (sndSs K X ps)
end
end Mine

set_option autoImplicit false
set_option backward.match.sparseCases true
set_option linter.unusedVariables false
namespace Mine
open PySem PyProof.Rows PySem.SeqAt

variable {C : Fix} {c : Cx} {σ σ' : AH} {g g' : Cfg} {h h' : Heap} {s s' : Shared} {own : Addr → Prop} {A : Around} {d : Nat} {nm : NM} {vm : VM} {env : Env} {ρ : List PV}
  {Q : Value → Shared → Prop} {E : Value → Shared → Prop}

/-! ## freezing -/
/-- the new tracked things become frozen -/
noncomputable def Cfg.cool (g : Cfg) (n : Nat) : Cfg := ⟨g.μ.take n, fun a => g.Φ a ∨ a ∈ g.μ.drop n, g.lk⟩

section
variable {n : Nat} {dd : Nat → Option PV}

theorem frz3_sound (hd : ∀ (i : Nat) v' a, dd i = some v' → g.μ[i]? = some a → C.VR (g.cool n) h v' (.ref a)) :
    (∀ {v x}, C.VR g h v x → ∀ v', frzW dd v = some v' → C.VR (g.cool n) h v' x) ∧ (∀ {v x}, C.VRs g h v x → ∀ v', frzWs dd v = some v' → C.VRs (g.cool n) h v' x) ∧ (∀ {v x}, C.VRd g h v x → ∀ v', frzWd dd v = some v' → C.VRd (g.cool n) h v' x) := by
  refine VR.ind (fun _ e => Option.some.inj e ▸ .none) (fun b _ e => Option.some.inj e ▸ .bool b) (fun i t _ e => Option.some.inj e ▸ .int i t) (fun y t _ e => Option.some.inj e ▸ .str y t)
    (fun l a vs ha hl _ q v' e => ?_) (fun l a vs ha hl _ q v' e => ?_) (fun l a vs ha hm hl _ q v' e => ?_) (fun _ _ _ ha hl _ e => Option.some.inj e ▸ .rng (.inl ha) hl) (fun i a hi v' e => hd _ _ _ e hi)
    (fun _ e => Option.some.inj e ▸ .nil) (fun v x l r _ _ a b v' e => ?_) (fun _ e => Option.some.inj e ▸ .nil) (fun k v x l r _ _ a b v' e => ?_)
  · obtain ⟨l', e1, rfl⟩ := Option.map_eq_some_iff.mp (show (frzWs dd l).map PV.tup = some v' from e)
    exact .tup (.inl ha) hl (q _ e1)
  · obtain ⟨l', e1, rfl⟩ := Option.map_eq_some_iff.mp (show (frzWs dd l).map PV.lst = some v' from e)
    exact .lst (.inl ha) hl (q _ e1)
  · obtain ⟨l', e1, rfl⟩ := Option.map_eq_some_iff.mp (show (frzWd dd l).map PV.dct = some v' from e)
    exact .dct (.inl ha) hm hl (q _ e1)
  · have e := (frzWs.eq_2 dd v l).symm.trans e
    cases h1 : frzW dd v with
    | none => rw [h1] at e; cases e
    | some v' =>
      cases h2 : frzWs dd l with
      | none => rw [h1, h2] at e; cases e
      | some l' => rw [h1, h2] at e; cases e; exact .cons (a _ h1) (b _ h2)
  · have e := (frzWd.eq_2 dd k v l).symm.trans e
    cases h1 : frzW dd v with
    | none => rw [h1] at e; cases e
    | some v' =>
      cases h2 : frzWd dd l with
      | none => rw [h1, h2] at e; cases e
      | some l' => rw [h1, h2] at e; cases e; exact .cons (a _ h1) (b _ h2)
theorem frzW_sound (hd : ∀ (i : Nat) v' a, dd i = some v' → g.μ[i]? = some a → C.VR (g.cool n) h v' (.ref a)) {v v' : PV} {x : Value} (q : C.VR g h v x) (e : frzW dd v = some v') : C.VR (g.cool n) h v' x := (frz3_sound hd).1 q _ e
theorem frzWs_sound (hd : ∀ (i : Nat) v' a, dd i = some v' → g.μ[i]? = some a → C.VR (g.cool n) h v' (.ref a)) {v v' : List PV} {x : List Value} (q : C.VRs g h v x) (e : frzWs dd v = some v') : C.VRs (g.cool n) h v' x := (frz3_sound hd).2.1 q _ e
theorem frzWd_sound (hd : ∀ (i : Nat) v' a, dd i = some v' → g.μ[i]? = some a → C.VR (g.cool n) h v' (.ref a)) {v v' : List (Str × PV)} {x : List (Str × Value)} (q : C.VRd g h v x) (e : frzWd dd v = some v') : C.VRd (g.cool n) h v' x := (frz3_sound hd).2.2 q _ e

theorem cool_low {i : Nat} {a : Addr} (hi : i < n) (h : g.μ[i]? = some a) : (g.cool n).μ[i]? = some a := by
  show (g.μ.take n)[i]? = some a
  rw [List.getElem?_take_of_lt hi]; exact h
theorem cool_high {i : Nat} {a : Addr} (hi : ¬ i < n) (h : g.μ[i]? = some a) : a ∈ g.μ.drop n := by
  have : (g.μ.drop n)[i - n]? = some a := by rw [List.getElem?_drop]; rw [show n + (i - n) = i by exact om313 hi]; exact h
  exact List.mem_of_getElem? this

theorem frz_sound (R : C.Rel σ g h) : ∀ (k : Nat) {v v' : PV} {x : Value}, frz n σ k v = some v' → C.VR g h v x → C.VR (g.cool n) h v' x
  | 0, v, v', x, e, hv => by
    refine frzW_sound (fun i v' a e1 e2 => ?_) hv e
    split at e1
    · rename_i hi; cases e1; exact .ref (cool_low hi e2)
    · cases e1
  | k + 1, v, v', x, e, hv => by
    refine frzW_sound (fun i v' a e1 e2 => ?_) hv e
    split at e1
    · rename_i hi; cases e1; exact .ref (cool_low hi e2)
    · rename_i hi
      have hin := cool_high hi e2
      cases ho : σ[i]? with
      | none => rw [ho] at e1; cases e1
      | some o =>
        rw [ho] at e1
        have hor := R.rel.objs i o a ho e2
        cases o with
        | list b l =>
          refine byC fun hZ => ?_
          obtain ⟨_, vs, h1, h2⟩ := hor
          obtain ⟨l', e3, rfl⟩ := Option.map_eq_some_iff.mp e1
          refine hZ ?_; clear hZ
          exact .lst (.inr hin) h1 (frzWs_sound (fun j v'' a' e4 e5 => frz_sound R k e4 (.ref e5)) h2 e3)
        | dict b l =>
          refine byC fun hZ => ?_
          obtain ⟨_, kvs, h1, h2⟩ := hor
          obtain ⟨l', e3, rfl⟩ := Option.map_eq_some_iff.mp e1
          refine hZ ?_; clear hZ
          exact .dct (.inr hin) (R.notSys (R.rel.disj a (List.mem_of_getElem? e2))) h1 (frzWd_sound (fun j v'' a' e4 e5 => frz_sound R k e4 (.ref e5)) h2 e3)
        | inst k d => cases e1
        | ns l => cases e1

theorem low3 {g0 : Cfg} {h0 : Heap} (e : g0.μ.length = n) :
    (∀ {v y}, C.VR g0 h0 v y → ∀ x, C.VR g h v x → C.VR (g.cool n) h v x) ∧ (∀ {v y}, C.VRs g0 h0 v y → ∀ x, C.VRs g h v x → C.VRs (g.cool n) h v x) ∧ (∀ {v y}, C.VRd g0 h0 v y → ∀ x, C.VRd g h v x → C.VRd (g.cool n) h v x) := by
  refine VR.ind (fun _ q => by cases q; exact .none) (fun b _ q => by cases q; exact .bool b) (fun i t _ q => by cases q; exact .int i _) (fun y t _ q => by cases q; exact .str y _)
    (fun l a vs _ _ _ r v' q => ?_) (fun l a vs _ _ _ r v' q => ?_) (fun l a vs _ _ _ _ r v' q => ?_) (fun _ _ _ _ _ _ q => ?_) (fun i a hi v' q => ?_)
    (fun _ q => by cases q; exact .nil) (fun v x l r _ _ a b v' q => ?_) (fun _ q => by cases q; exact .nil) (fun k v x l r _ _ a b v' q => ?_)
  · cases q with | tup ha hl hr' => exact .tup (.inl ha) hl (r _ hr')
  · cases q with | lst ha hl hr' => exact .lst (.inl ha) hl (r _ hr')
  · cases q with | dct ha hm hl hr' => exact .dct (.inl ha) hm hl (r _ hr')
  · cases q with | rng ha hl => exact .rng (.inl ha) hl
  · cases q with | ref hj => exact .ref (cool_low (e ▸ (List.getElem?_eq_some_iff.mp hi).1) hj)
  · cases q with | cons a' b' => exact .cons (a _ a') (b _ b')
  · cases q with | cons a' b' => exact .cons (a _ a') (b _ b')
theorem vrs_low {g0 : Cfg} {h0 : Heap} {v : List PV} {x0 x : List Value} (a : C.VRs g0 h0 v x0) (b : C.VRs g h v x) (e : g0.μ.length = n) : C.VRs (g.cool n) h v x := (low3 e).2.1 a _ b
theorem vrd_low {g0 : Cfg} {h0 : Heap} {v : List (Str × PV)} {x0 x : List (Str × Value)} (a : C.VRd g0 h0 v x0) (b : C.VRd g h v x) (e : g0.μ.length = n) : C.VRd (g.cool n) h v x := (low3 e).2.2 a _ b
end

theorem take_pre {α : Type} {l l' : List α} (h : l <+: l') : l'.take l.length = l := by
  obtain ⟨t, rfl⟩ := h; simp

theorem cool_rel (R0 : C.Rel σ g s.heap) (R : C.Rel σ' g' s'.heap) (e : Ext noOwn g s g' s') (ht : σ'.take σ.length = σ) : C.Rel σ (g'.cool σ.length) s'.heap := by
  have hμ : (g'.cool σ.length).μ = g.μ := by rw [← R0.rel.len]; exact take_pre e.pre
  have hnd : (g'.μ.take σ.length ++ g'.μ.drop σ.length).Nodup := by rw [List.take_append_drop]; exact R.rel.nodup
  have hdis := (List.nodup_append.mp hnd).2.2
  have hlow : ∀ {i : Nat}, i < σ.length → σ[i]? = σ'[i]? := fun {i} hi => by
    have : (σ'.take σ.length)[i]? = σ'[i]? := List.getElem?_take_of_lt hi
    rw [ht] at this; exact this
  refine ⟨{ len := by rw [hμ]; exact R0.rel.len, nodup := (List.nodup_append.mp hnd).1, disj := fun a ha q => q.elim (R.rel.disj a (List.mem_of_mem_take ha)) fun q => hdis a ha a q rfl, lkμ := fun a ha => ?_, live := fun a ha => ha.elim (R.rel.live a) fun q => ?_, base := R.rel.base, baseμ := fun a ha => R.rel.baseμ a (List.mem_of_mem_take ha), objs := fun i o a h1 h2 => ?_ }, fun b hb => .inl (R.bas b hb), R.sys⟩
  · rw [hμ]; exact R0.rel.lkμ a (by rw [← e.lock]; exact ha)
  · have hm := List.mem_of_mem_drop q
    cases hq : s'.heap.get? a with
    | none => exact absurd hm (R.fresh hq).1
    | some o => rfl
  · have hi : i < σ.length := (List.getElem?_eq_some_iff.mp h1).1
    have h2' : g'.μ[i]? = some a := by
      have : (g'.μ.take σ.length)[i]? = some a := h2
      rwa [List.getElem?_take_of_lt hi] at this
    have h2'' : g.μ[i]? = some a := by rw [hμ] at h2; exact h2
    have hor := R.rel.objs i o a (by rw [← hlow hi]; exact h1) h2'
    have hor0 := R0.rel.objs i o a h1 h2''
    cases o with
    | list b l =>
      refine byC fun hZ => ?_
      obtain ⟨q1, vs, q2, q3⟩ := hor
      obtain ⟨_, vs0, _, q4⟩ := hor0
      refine hZ ?_; clear hZ
      exact ⟨q1, vs, q2, vrs_low q4 q3 R0.rel.len⟩
    | dict b l =>
      refine byC fun hZ => ?_
      obtain ⟨q1, vs, q2, q3⟩ := hor
      obtain ⟨_, vs0, _, q4⟩ := hor0
      refine hZ ?_; clear hZ
      exact ⟨q1, vs, q2, vrd_low q4 q3 R0.rel.len⟩
    | inst k d =>
      refine byC fun hZ => ?_
      obtain ⟨ql, I1, d1, q1, q2, q3⟩ := hor
      obtain ⟨_, I2, d2, q4, q5, q6⟩ := hor0
      refine hZ ?_; clear hZ
      have hlt : d < σ.length := R0.rel.len ▸ (List.getElem?_eq_some_iff.mp q5).1
      exact ⟨ql, I1, d1, q1, cool_low hlt q2, q3⟩
    | ns l =>
      refine byC fun hZ => ?_
      obtain ⟨ql, m, q2, q3⟩ := hor
      obtain ⟨_, m0, _, q4⟩ := hor0
      refine hZ ?_; clear hZ
      refine ⟨ql, m, q2, fun k => ⟨fun v e => ?_, (q3 k).2⟩⟩
      refine byC fun hZ => ?_
      obtain ⟨x, q5, q6⟩ := (q3 k).1 v e
      obtain ⟨y, _, q7⟩ := (q4 k).1 v e
      refine hZ ?_; clear hZ
      exact ⟨x, q5, (low3 R0.rel.len).1 q7 _ q6⟩

theorem cool_ext (R0 : C.Rel σ g s.heap) (R : C.Rel σ' g' s'.heap) (e : Ext noOwn g s g' s') : Ext noOwn g s (g'.cool σ.length) s' := by
  have hμ : (g'.cool σ.length).μ = g.μ := by rw [← R0.rel.len]; exact take_pre e.pre
  have hnd : (g'.μ.take σ.length ++ g'.μ.drop σ.length).Nodup := by rw [List.take_append_drop]; exact R.rel.nodup
  have hdis := (List.nodup_append.mp hnd).2.2
  refine ⟨by rw [hμ]; exact List.prefix_refl _, fun a ha => .inl (e.sub a ha), fun a ha => .inl (by rw [hμ] at ha; exact ha), fun a ha => ?_, e.lock, e.keep, e.live, e.gens, e.os⟩
  rcases ha with ha | ha
  · exact e.newΦ a ha
  · rcases e.newμ a (List.mem_of_mem_drop ha) with q | q
    · have : a ∈ (g'.cool σ.length).μ := by rw [hμ]; exact q
      exact absurd rfl (hdis a this a ha)
    · exact .inr q
end Mine

set_option autoImplicit false
set_option backward.match.sparseCases true
set_option linter.unusedVariables false
namespace Mine
open PySem PyProof.Rows PySem.SeqAt PySem.Calls

/-! ## functions -/
theorem zip_lookup_some {α : Type} : ∀ (ns : List Str) (vs : List α) (i : Nat) (n : Str) (v : α), ns.Nodup → ns[i]? = some n → vs[i]? = some v → (ns.zip vs).lookup n = some v
  | m :: ns, w :: vs, 0, n, v, hn, h1, h2 => by
    simp only [List.getElem?_cons_zero, Option.some.injEq] at h1 h2
    subst h1 h2; simp
  | m :: ns, w :: vs, i + 1, n, v, hn, h1, h2 => by
    simp only [List.getElem?_cons_succ] at h1 h2
    rw [List.nodup_cons] at hn
    have hne : (n == m) = false := by
      rw [beq_eq_false_iff_ne]; rintro rfl
      exact hn.1 (List.mem_of_getElem? h1)
    rw [List.zip_cons_cons, List.lookup_cons, hne]
    exact zip_lookup_some ns vs i n v hn.2 h1 h2
theorem zip_all {α : Type} {ns : List Str} {vs : List α} (hn : ns.Nodup) (hl : vs.length = ns.length) {n : Str} (h : n ∈ ns) : ((ns.zip vs).lookup n).isSome = true := by
  obtain ⟨i, hi⟩ := List.getElem?_of_mem h
  have hlt := (List.getElem?_eq_some_iff.mp hi).1
  rw [zip_lookup_some ns vs i n (vs[i]'(by exact om265 hl hlt)) hn hi (by simp)]; rfl
theorem filterMap_same {α β : Type} {f g : α → Option β} : ∀ {l : List α}, (∀ x ∈ l, f x = g x) → l.filterMap f = l.filterMap g
  | [], _ => rfl
  | x :: l, h => by
    rw [List.filterMap_cons, List.filterMap_cons, h x (List.mem_cons_self ..), filterMap_same fun y hy => h y (List.mem_cons_of_mem _ hy)]
theorem zip_again {α : Type} : ∀ (ns : List Str) (vs : List α), ns.Nodup → vs.length = ns.length → ns.filterMap (fun n => ((ns.zip vs).lookup n).map (n, ·)) = ns.zip vs
  | [], vs, _, _ => by cases vs <;> rfl
  | n :: ns, [], _, h => by cases h
  | n :: ns, v :: vs, hn, hl => by
    rw [List.nodup_cons] at hn
    rw [List.filterMap_cons, List.zip_cons_cons, List.lookup_cons]
    simp only [beq_self_eq_true, Option.map_some]
    congr 1
    refine Eq.trans ?_ (zip_again ns vs hn.2 (by simpa using hl))
    refine filterMap_same fun m hm => ?_
    have : (m == n) = false := by rw [beq_eq_false_iff_ne]; rintro rfl; exact hn.1 hm
    rw [List.lookup_cons, this]

theorem bind_plain {name qual : Str} {params : Arguments} {body : List Stmt} {scope : Scope} {pm code doc : Value} {vals : List Value} (h1 : params.posonlyargs = []) (h2 : params.vararg = none) (h3 : params.kwonlyargs = []) (h4 : params.kwarg = none)
    (hn : (params.args.map (·.arg)).Nodup) (hl : vals.length = params.args.length) : bindArgs (methDef name qual params body scope pm code doc) ⟨vals, []⟩ = pure ((params.args.map (·.arg)).zip vals) := by
  have hl' : vals.length = (params.args.map (·.arg)).length := by simpa using hl
  have hm : ((params.args.map (·.arg)).filter fun n => (((params.args.map (·.arg)).zip vals).lookup n).isNone) = [] := by
    rw [List.filter_eq_nil_iff]
    intro n hn'
    have := zip_all hn hl' hn'
    rw [Option.isNone_iff_eq_none]
    intro q; rw [q] at this; cases this
  have hf := zip_again (params.args.map (·.arg)) vals hn hl'
  unfold bindArgs methDef
  simp only [h1, h2, h3, h4, List.map_nil, List.nil_append, List.append_nil, List.forIn_nil, pure_bind]
  have hs : seqItems? Value.none = pure none := rfl
  simp only [hs, pure_bind, Option.getD_none, List.length_nil, Nat.zero_sub, List.drop_nil, Nat.sub_zero, List.zip_nil_right, List.forIn_nil]
  have hgt : ¬ vals.length > (params.args.map (·.arg)).length := by exact om315 hl'
  have hgt' : (decide (vals.length > (params.args.map (·.arg)).length)) = false := by simp; exact om267 hl
  rw [List.take_length]
  simp only [hgt', hm, List.isEmpty_nil, Bool.not_true, Bool.false_eq_true, if_false, Bool.false_and, hf]

noncomputable def ownNames (nm : NM) : List Str := (nm.filter fun p => isOwn (some p.2)).map (·.1)
noncomputable def vmOf (ns : List Str) : VM := ns.zip (List.range ns.length)

noncomputable def fnChk (F : Fn) (params : Arguments) (body : List Stmt) (scope : Scope) : Bool :=
  params.posonlyargs.isEmpty && params.vararg.isNone && params.kwonlyargs.isEmpty && params.kwarg.isNone && decide (params.args.length = F.nargs) &&
  decide ((ownNames scope.names).take F.nargs = params.args.map (·.arg)) && decide ((scope.names.map (·.1)).Nodup) && scope.kind == .function && !scope.isGenerator && !scope.isCoroutine &&
  scope.names.all (fun p => match p.2 with | .local | .cell | .globalImplicit => true | _ => false) && chkSs F.body scope.names (vmOf (ownNames scope.names)) body

structure FnChk (F : Fn) (params : Arguments) (body : List Stmt) (scope : Scope) : Prop where
  p1 : params.posonlyargs = []
  p2 : params.vararg = none
  p3 : params.kwonlyargs = []
  p4 : params.kwarg = none
  len : params.args.length = F.nargs
  take : (ownNames scope.names).take F.nargs = params.args.map (·.arg)
  nodup : (scope.names.map (·.1)).Nodup
  kind : scope.kind = .function
  gen : scope.isGenerator = false
  cor : scope.isCoroutine = false
  kinds : ∀ p ∈ scope.names, p.2 = .local ∨ p.2 = .cell ∨ p.2 = .globalImplicit
  chk : chkSs F.body scope.names (vmOf (ownNames scope.names)) body = true
theorem fnChk_of {F : Fn} {params : Arguments} {body : List Stmt} {scope : Scope} (h : fnChk F params body scope = true) : FnChk F params body scope := by
  unfold fnChk at h
  simp only [Bool.and_eq_true, decide_eq_true_eq, List.isEmpty_iff, Option.isNone_iff_eq_none, beq_iff_eq, Bool.not_eq_true'] at h
  obtain ⟨⟨⟨⟨⟨⟨⟨⟨⟨⟨⟨h1, h2⟩, h3⟩, h4⟩, h5⟩, h6⟩, h7⟩, h8⟩, h9⟩, h10⟩, h11⟩, h12⟩ := h
  refine ⟨h1, h2, h3, h4, h5, h6, h7, h8, h9, h10, fun p hp => ?_, h12⟩
  have := List.all_eq_true.mp h11 p hp
  obtain ⟨n, k⟩ := p
  cases k <;> first | exact .inl rfl | exact .inr (.inl rfl) | exact .inr (.inr rfl) | cases this

variable {C : Fix} {c : Cx} {σ σ' : AH} {g g' : Cfg} {h h' : Heap} {s s' : Shared} {own : Addr → Prop} {A : Around} {d : Nat} {nm : NM} {vm : VM} {env : Env} {ρ : List PV}
  {Q : Value → Shared → Prop} {E : Value → Shared → Prop}

/-- a function object of the base -/
noncomputable def FnAt (C : Fix) (a : Addr) (F : Fn) : Prop := ∃ o name qual params body scope pm code doc, C.B.get? a = some o ∧ o.data = .func (methDef name qual params body scope pm code doc) ∧ C.B.CodeRec code qual ∧ FnChk F params body scope
noncomputable def FnOK (C : Fix) (f : Str) (F : Fn) : Prop := ∃ a, C.mg f = some (.ref a) ∧ FnAt C a F
/-- a method -/
noncomputable def MtOK (C : Fix) (k x : Str) (F : Fn) : Prop := ∃ I f o y, C.cls k = some I ∧ I.mN x = some (.ref f) ∧ C.B.get? f = some o ∧ o.cls = .type "function" ∧ typeLookup (.type "object") x = pure y ∧ FnAt C f F

theorem vmOf_get {ns : List Str} {x : Str} {i : Nat} (h : (vmOf ns).lookup x = some i) : ns[i]? = some x := by
  have hm := lookup_mem_pair h
  unfold vmOf at hm
  obtain ⟨k, hk⟩ := List.getElem?_of_mem hm
  rw [List.getElem?_zip_eq_some] at hk
  obtain ⟨h1, h2⟩ := hk
  have h3 : k = i := by
    have hlt := (List.getElem?_eq_some_iff.mp h2).1
    have := (List.getElem?_eq_some_iff.mp h2).2
    simpa using this
  rw [← h3]; exact h1
theorem vmOf_nodup (ns : List Str) : ((vmOf ns).map (·.2)).Nodup := by
  unfold vmOf
  rw [show (fun (p : Str × Nat) => p.2) = Prod.snd from rfl, List.map_snd_zip (by simp)]
  exact List.nodup_range
theorem own_nodup {nm : NM} (h : (nm.map (·.1)).Nodup) : (ownNames nm).Nodup := by
  unfold ownNames
  exact h.sublist (List.Sublist.map _ List.filter_sublist)
theorem lookup_of_mem {α : Type} : ∀ {l : List (Str × α)} {x : Str} {a : α}, (l.map (·.1)).Nodup → (x, a) ∈ l → l.lookup x = some a
  | (n, b) :: r, x, a, hn, hm => by
    rw [List.map_cons, List.nodup_cons] at hn
    rw [List.lookup_cons]
    rcases List.mem_cons.mp hm with e | e
    · cases e; simp
    · have : (x == n) = false := by rw [beq_eq_false_iff_ne]; rintro rfl; exact hn.1 (List.mem_map.mpr ⟨_, e, rfl⟩)
      rw [this]; exact lookup_of_mem hn.2 e
theorem own_kind {nm : NM} (hn : (nm.map (·.1)).Nodup) {x : Str} (h : x ∈ ownNames nm) : isOwn (nm.lookup x) = true := by
  unfold ownNames at h
  obtain ⟨⟨n, k⟩, h1, rfl⟩ := List.mem_map.mp h
  obtain ⟨h2, h3⟩ := List.mem_filter.mp h1
  rw [lookup_of_mem hn h2]; exact h3

theorem bindL_get {kindOf : Str → Option NameKind} : ∀ (binds : List (Str × Value)) (m : Str → Option Value) (x : Str) (v : Value), (binds.map (·.1)).Nodup → binds.lookup x = some v → kindOf x = some .local → bindL kindOf binds m x = some v
  | (n, w) :: r, m, x, v, hn, hl, hk => by
    rw [List.map_cons, List.nodup_cons] at hn
    rw [List.lookup_cons] at hl
    unfold bindL
    cases hx : x == n with
    | true =>
      rw [hx] at hl; cases hl
      have : x = n := by simpa using hx
      subst this
      rw [if_pos hk]
      have key : ∀ (r : List (Str × Value)) (m : Str → Option Value), x ∉ r.map (·.1) → bindL kindOf r m x = m x := by
        intro r
        induction r with
        | nil => intro m _; rfl
        | cons p r ih =>
          intro m hp
          obtain ⟨n', w'⟩ := p
          rw [List.map_cons, List.mem_cons, not_or] at hp
          unfold bindL
          rw [ih _ hp.2]
          split
          · simp [hp.1]
          · rfl
      rw [key r _ hn.1]; simp
    | false => rw [hx] at hl; exact bindL_get r _ x v hn.2 hl hk
theorem bindC_get {kindOf : Str → Option NameKind} : ∀ (binds : List (Str × Value)) (m : Str → Option Value) (x : Str) (v : Value), (binds.map (·.1)).Nodup → binds.lookup x = some v → kindOf x ≠ some .local → bindC kindOf binds m x = some v
  | (n, w) :: r, m, x, v, hn, hl, hk => by
    rw [List.map_cons, List.nodup_cons] at hn
    rw [List.lookup_cons] at hl
    unfold bindC
    cases hx : x == n with
    | true =>
      rw [hx] at hl; cases hl
      have : x = n := by simpa using hx
      subst this
      rw [if_neg hk]
      have key : ∀ (r : List (Str × Value)) (m : Str → Option Value), x ∉ r.map (·.1) → bindC kindOf r m x = m x := by
        intro r
        induction r with
        | nil => intro m _; rfl
        | cons p r ih =>
          intro m hp
          obtain ⟨n', w'⟩ := p
          rw [List.map_cons, List.mem_cons, not_or] at hp
          unfold bindC
          rw [ih _ hp.2]
          split
          · rfl
          · simp [hp.1]
      rw [key r _ hn.1]; simp
    | false => rw [hx] at hl; exact bindC_get r _ x v hn.2 hl hk

/-- the frame at a function's start -/
theorem FR.start {F : Fn} {params : Arguments} {body : List Stmt} {scope : Scope} {f q : Str} {pm code doc : Value} {a : Addr} {args : List PV} {vals : List Value} (ck : FnChk F params body scope) (hlen : args.length = F.nargs) (R : C.Rel σ g s.heap) (hv : C.VRs g s.heap args vals) {s1 : Shared}
    (X : InCallC s (callEnvC (methDef f q params body scope pm code doc) s.heap.objs.size a).locals (bindL (callEnvC (methDef f q params body scope pm code doc) s.heap.objs.size a).kindOf ((params.args.map (·.arg)).zip vals) fun _ => none) (callEnvC (methDef f q params body scope pm code doc) s.heap.objs.size a).cells
        (bindC (callEnvC (methDef f q params body scope pm code doc) s.heap.objs.size a).kindOf ((params.args.map (·.arg)).zip vals) fun _ => none) s1) :
    FR C scope.names (vmOf (ownNames scope.names)) (callEnvC (methDef f q params body scope pm code doc) s.heap.objs.size a) (args ++ List.replicate (F.slots - F.nargs) .undef) g s1.heap := by
  have kept : Kept g s.heap s1.heap := .of_all X.toInCall.keep
  have hown := own_nodup ck.nodup
  have hpn : (params.args.map (·.arg)).Nodup := by rw [← ck.take]; exact hown.sublist (List.take_sublist ..)
  have hvl : vals.length = params.args.length := by rw [← hv.length, hlen, ck.len]
  have hzn : (((params.args.map (·.arg)).zip vals).map (·.1)).Nodup := by
    rw [show (fun (p : Str × Value) => p.1) = Prod.fst from rfl, List.map_fst_zip (by simp [hvl])]; exact hpn
  -- a bound slot is a parameter
  have par : ∀ x i v, (vmOf (ownNames scope.names)).lookup x = some i → (args ++ List.replicate (F.slots - F.nargs) .undef)[i]? = some v → v ≠ .undef → ∃ y, ((params.args.map (·.arg)).zip vals).lookup x = some y ∧ C.VR g s1.heap v y := by
    intro x i v h1 h2 h3
    have h4 := vmOf_get h1
    by_cases hi : i < args.length
    · rw [List.getElem?_append_left hi] at h2
      obtain ⟨y, h5, h6⟩ := hv.get h2
      have h7 : (params.args.map (·.arg))[i]? = some x := by rw [← ck.take, List.getElem?_take_of_lt (by exact om314 hlen hi)]; exact h4
      exact ⟨y, zip_lookup_some _ _ i x y hpn h7 h5, VR_kept (C := C) kept h6⟩
    · rw [List.getElem?_append_right (by exact om3 hi)] at h2
      have := List.mem_of_getElem? h2
      exact absurd (List.eq_of_mem_replicate this) h3
  have fresh : ∀ b, s.heap.objs.size ≤ b → b ∉ g.μ ∧ ¬ g.Φ b := fun b hb => R.fresh (get?_le hb)
  refine ⟨ck.kind, rfl, rfl, rfl, fun x y i => lookup_inj (vmOf_nodup _), ⟨_, X.toInCall.ns, fun x i v h1 h2 h3 h4 => ?_⟩, fun x i h1 h2 => ?_, fresh _ X.toInCall.fresh, fun x cc hc => fresh cc ?_, fun x cc hc => ⟨_, X.cell x cc hc⟩, fun x y cc h1 h2 => ?_⟩
  · obtain ⟨y, h5, h6⟩ := par x i v h1 h3 h4
    exact ⟨y, bindL_get _ _ x y hzn h5 h2, h6⟩
  · have hk : scope.names.lookup x = some .cell := by
      cases hq : scope.names.lookup x with
      | none => rw [hq] at h2; cases h2
      | some k =>
        rw [hq] at h2
        rcases ck.kinds _ (lookup_mem_pair hq) with e | e | e <;> (simp only at e; subst e; first | rfl | cases h2)
    obtain ⟨cc, hc⟩ := Option.isSome_iff_exists.mp (PySem.W.cellsFrom_some (x := x) scope.names (s.heap.objs.size + 1) [] (.inl hk))
    refine ⟨cc, _, hc, X.cell x cc hc, fun v h3 h4 => ?_⟩
    obtain ⟨y, h5, h6⟩ := par x i v h1 h3 h4
    refine ⟨y, bindC_get _ _ x y hzn h5 ?_, h6⟩
    show scope.names.lookup x ≠ some .local
    rw [hk]; intro q; cases q
  · have := X.above x cc (mem_of_lookup hc)
    have h2 := X.toInCall.fresh
    exact Nat.le_of_lt (Nat.lt_of_le_of_lt h2 this)
  · exact name_of_addr X.apart (mem_of_lookup h1) (mem_of_lookup h2)
end Mine

set_option autoImplicit false
set_option backward.match.sparseCases true
set_option linter.unusedVariables false
namespace Mine
open PySem PyProof.Rows PySem.SeqAt PySem.Calls PySem.W

variable {C : Fix} {c : Cx} {σ σ' : AH} {g g' : Cfg} {h h' : Heap} {s s' : Shared} {own : Addr → Prop} {A : Around} {d : Nat} {nm : NM} {vm : VM} {env : Env} {ρ : List PV}
  {Q : Value → Shared → Prop} {E : Value → Shared → Prop}

theorem AOK.call (hA : AOK A (d + 1)) (hg : env.scope.isGenerator = false) (hc : env.scope.isCoroutine = false) (hb : env.builtins = builtinsNs) (hm : env.globals = mainGlobals) : AOK (A.deeper env) d := by
  refine ⟨hA.hand, ?_, ?_, ?_⟩
  · have := hA.depth
    show A.depth + 1 + 2 * d < 890
    exact om323 this
  · have := hA.units
    show A.units + 3 + 12 * d + 700 < cLine
    exact om322 this
  · obtain ⟨e0, l, h1, _⟩ := hA.fr
    exact ⟨env, e0 :: l, by show A.frames.map (env :: ·) = _; rw [h1]; rfl, hg, hc, hb, hm⟩

theorem AOK.call2 {a : Addr} {ys : List Value} (hA : AOK A (d + 1)) (hg : env.scope.isGenerator = false) (hc : env.scope.isCoroutine = false) (hb : env.builtins = builtinsNs) (hm : env.globals = mainGlobals) : AOK ((A.under (.builtin "type.__call__" ⟨.ref a :: ys, []⟩)).deeper env) d := by
  refine ⟨hA.hand, ?_, ?_, ?_⟩
  · have := hA.depth
    show A.depth + 1 + 1 + 2 * d < 890
    exact om321 this
  · have := hA.units
    show A.units + 1 + 3 + 12 * d + 700 < cLine
    exact om320 this
  · obtain ⟨e0, l, h1, _⟩ := hA.fr
    exact ⟨env, e0 :: l, by show A.frames.map (env :: ·) = _; rw [h1]; rfl, hg, hc, hb, hm⟩

theorem fn_call' (K : C.OK) (X : CxOK C c d) {F : Fn} {a : Addr} (hF : FnAt C a F) {args : List PV} {xs : List Value} (hdep : A.depth < 1000)
    (hA : ∀ env : Env, env.scope.isGenerator = false → env.scope.isCoroutine = false → env.builtins = builtinsNs → env.globals = mainGlobals → AOK (A.deeper env) d) (R : C.Rel σ g s.heap) (hv : C.VRs g s.heap args xs)
    (hp : PostE C noOwn g s (runFn c F args σ) Q E) : wpAny (model C.prog C.w) A (call (.ref a) xs) Q E s := by
  refine byC fun hZ => ?_
  obtain ⟨o, f, q, params, body, scope, pm, code, doc, h2, h3, h4, ck⟩ := hF
  refine hZ ?_; clear hZ
  unfold runFn at hp
  split at hp
  · rename_i hlen
    have hvl : xs.length = params.args.length := by rw [← hv.length, hlen, ck.len]
    have hown := own_nodup ck.nodup
    have hpn : (params.args.map (·.arg)).Nodup := by rw [← ck.take]; exact hown.sublist (List.take_sublist ..)
    refine wpAny_call (codeAny_call_cells (fd := methDef f q params body scope pm code doc) (binds := (params.args.map (·.arg)).zip xs) ?_ (R.rel.base _ _ h2) h3 (K.nolimit.keeps R.rel.base) (h4.keeps R.rel.base) rfl (bind_plain ck.p1 ck.p2 ck.p3 ck.p4 hpn hvl) rfl ?_ ?_ ck.cor ck.gen ck.kind)
    · exact hdep
    · intro y hy
      have hm : y.1 ∈ ownNames scope.names := by
        have h5 : y.1 ∈ params.args.map (·.arg) := (List.of_mem_zip (show (y.1, y.2) ∈ _ from hy)).1
        rw [← ck.take] at h5; exact List.mem_of_mem_take h5
      have hk := own_kind ck.nodup hm
      cases hq : scope.names.lookup y.1 with
      | none => rw [hq] at hk; cases hk
      | some k =>
        rw [hq] at hk
        cases k <;> first | cases hk | skip
        · exact .inl hq
        · exact .inr ⟨hq, PySem.W.cellsFrom_some scope.names _ [] (.inl hq)⟩
    · intro s1 IC
      have F1 := FR.start ck hlen R hv IC
      have k1 := IC.toInCall.keep
      refine byC fun hZ => ?_
      obtain ⟨hh, tk, hs1⟩ := IC.toInCall.same
      refine hZ ?_; clear hZ
      have e1 : Ext noOwn g s g s1 := by rw [hs1]; rw [hs1] at k1; exact Ext.all k1
      have R1 : C.Rel σ g s1.heap := R.kept (.of_all k1)
      have hA1 : AOK (A.deeper (callEnvC (methDef f q params body scope pm code doc) s.heap.objs.size a)) d := hA _ ck.gen ck.cor rfl rfl
      have hnone : ∀ b, ownOf (callEnvC (methDef f q params body scope pm code doc) s.heap.objs.size a) b → s.heap.get? b = none := fun b hb => by
        rcases hb with rfl | ⟨x, hx⟩
        · exact get?_le IC.toInCall.fresh
        · exact get?_le (Nat.le_of_lt (Nat.lt_of_le_of_lt IC.toInCall.fresh (IC.above x b (mem_of_lookup hx))))
      cases hr : execs c F.body (args ++ List.replicate (F.slots - F.nargs) .undef) σ with
      | exc => rw [hr] at hp; exact hp.elim
      | bad => rw [hr] at hp; exact hp.elim
      | ok r σ' =>
        rw [hr] at hp
        simp only [Res.bind] at hp
        obtain ⟨fl, ρ'⟩ := r
        refine sndSs K X F.body scope.names _ body _ _ σ g s1 _ _ _ ck.chk F1 R1 hA1 (PostX.mk hr fun g2 s2 fw e2 R2 F2 hf => ?_)
        have e3 : Ext noOwn g s g2 s2 := Ext.drop e1 e2 hnone
        have fin : ∀ x, C.VR g2 s2.heap fl.out x → Q x s2 := by
          intro x hvx
          split at hp
          · exact hp g2 s2 x e3 R2 hvx
          · split at hp
            · rename_i ht
              cases hz : frz σ.length σ' 3 fl.out with
              | none => rw [hz] at hp; exact hp.elim
              | some v' =>
                rw [hz] at hp
                exact hp (g2.cool σ.length) s2 x (cool_ext R R2 e3) (cool_rel R R2 e3 ht) (frz_sound R2 3 hz hvx)
            · exact hp.elim
        cases fl with
        | ret v => obtain ⟨x, rfl, q⟩ := hf; exact fin x q
        | next => cases hf; exact fin .none .none
        | brk => cases hf; exact fin .none .none
        | cont => cases hf; exact fin .none .none
  · exact hp.elim

theorem callD_ok (K : C.OK) {G : Glob} (hgl : ∀ x v, G.const x = some v → ∃ y, C.mg x = some y ∧ C.VR C.g0 C.B v y) (hfn : ∀ f F, noDot f = true → G.fn f = some F → FnOK C f F) (hmt : ∀ k x F, G.fn (methK k x) = some F → MtOK C k x F)
    (hbi : ∀ w ∈ biWords, C.mg w = none) (hcl : ∀ k I, C.cls k = some I → I.OK C.B G.atr ∧ C.mg k = some (.ref I.C)) (hat : ∀ x, G.atr x = true → typeLookup (.type "object") x = pure none) : ∀ d, CxOK C ⟨G.const, callD G d, G.atr⟩ d
  | 0 => ⟨hgl, fun f args σ _ h => absurd rfl h, fun f a args xs σ g s A Q E _ _ _ _ _ hp => hp.elim, hbi, fun k I h => (hcl k I h).1, hat, fun k I x args σ _ h => absurd rfl h, fun k I x f args xs σ g s A Q E _ _ _ _ _ hp => hp.elim, fun k I f args xs σ g s A b Q E _ _ _ _ _ hp => hp.elim, fun k args σ h => absurd rfl h⟩
  | d + 1 => by
    have ih := callD_ok K hgl hfn hmt hbi hcl hat d
    have some_of : ∀ {f : Str} {args : List PV} {σ : AH}, callD G (d + 1) f args σ ≠ .bad → ∃ F, G.fn f = some F := fun {f args σ} hb => by
      cases hF : G.fn f with
      | none => exact absurd (show callD G (d + 1) f args σ = .bad by rw [callD, hF]) hb
      | some F => exact ⟨F, rfl⟩
    have run_of : ∀ {f : Str} {F : Fn} {args : List PV} {σ : AH} {g : Cfg} {s : Shared} {Q E : Value → Shared → Prop}, G.fn f = some F → PostE C noOwn g s (callD G (d + 1) f args σ) Q E → PostE C noOwn g s (runFn ⟨G.const, callD G d, G.atr⟩ F args σ) Q E := fun {f F args σ g s Q E} hF hp => by
      rw [callD, hF] at hp; exact hp
    have post_ne : ∀ {f : Str} {args : List PV} {σ : AH} {g : Cfg} {s : Shared} {Q E : Value → Shared → Prop}, PostE C noOwn g s (callD G (d + 1) f args σ) Q E → callD G (d + 1) f args σ ≠ .bad := fun {f args σ g s Q E} hp q => by rw [q] at hp; exact hp
    refine ⟨hgl, fun f args σ hd hb => ?_, fun f a args xs σ g s A Q E hd ha hA R hv hp => ?_, hbi, fun k I h => (hcl k I h).1, hat, fun k I x args σ hI hb => ?_, fun k I x f args xs σ g s A Q E hI hf hA R hv hp => ?_, fun k I f args xs σ g s A b Q E hI hf hA R hv hp => ?_, fun k args σ hb => ?_⟩
    · refine byC fun hZ => ?_
      obtain ⟨F, hF⟩ := some_of hb
      obtain ⟨a, h1, o, _, _, _, _, _, _, _, _, h2, h3, _⟩ := hfn f F hd hF
      refine hZ ?_; clear hZ
      exact ⟨a, o, _, h1, h2, h3⟩
    · refine byC fun hZ => ?_
      obtain ⟨F, hF⟩ := some_of (post_ne hp)
      obtain ⟨a', h1, hF'⟩ := hfn f F hd hF
      refine hZ ?_; clear hZ
      cases ha.symm.trans h1
      exact fn_call' K ih hF' (by have := hA.depth; exact om319 this) (fun env h1 h2 h3 h4 => hA.call h1 h2 h3 h4) R hv (run_of hF hp)
    · refine byC fun hZ => ?_
      obtain ⟨F, hF⟩ := some_of hb
      obtain ⟨I', f, o, y, h1, h2, h3, h4, h5, o', _, _, _, _, _, _, _, _, h6, h7, _⟩ := hmt k x F hF
      refine hZ ?_; clear hZ
      cases hI.symm.trans h1
      cases h3.symm.trans h6
      exact ⟨f, o, _, y, h2, h3, h4, h7, h5⟩
    · refine byC fun hZ => ?_
      obtain ⟨F, hF⟩ := some_of (post_ne hp)
      obtain ⟨I', f', o, y, h1, h2, h3, h4, h5, hF'⟩ := hmt k x F hF
      refine hZ ?_; clear hZ
      cases hI.symm.trans h1
      cases hf.symm.trans h2
      exact fn_call' K ih hF' (by have := hA.depth; exact om319 this) (fun env h1 h2 h3 h4 => hA.call h1 h2 h3 h4) R hv (run_of hF hp)
    · refine byC fun hZ => ?_
      obtain ⟨F, hF⟩ := some_of (post_ne hp)
      obtain ⟨I', f', o, y, h1, h2, h3, h4, h5, hF'⟩ := hmt k "__init__" F hF
      refine hZ ?_; clear hZ
      cases hI.symm.trans h1
      cases hf.symm.trans h2
      exact fn_call' K ih hF' (by have := hA.depth; show A.depth + 1 < 1000; exact om318 this) (fun env h1 h2 h3 h4 => hA.call2 h1 h2 h3 h4) R hv (run_of hF hp)
    · refine byC fun hZ => ?_
      obtain ⟨F, hF⟩ := some_of hb
      obtain ⟨I, f, o, y, h1, _⟩ := hmt k "__init__" F hF
      refine hZ ?_; clear hZ
      exact ⟨I, h1, (hcl k I h1).2⟩

/-! ## the head -/
theorem base_rel {B : Heap} (hB : C.B = B) (K : C.OK) : C.Rel [] C.g0 B := by
  subst hB
  refine ⟨{ len := rfl, nodup := List.nodup_nil, disj := fun a ha => (nomatch ha), lkμ := fun a ha => ha.elim, live := fun a ha => ha, base := fun b o e => e, baseμ := fun a ha => (nomatch ha), objs := fun i o a h1 _ => by simp at h1 }, fun b hb => hb, ?_⟩
  obtain ⟨mm, h1, _⟩ := K.seer.mods
  obtain ⟨o, ho⟩ := Heap.Ns.live h1
  exact isSome_of ho

theorem well_ints {p : Params} {B : Heap} {x : Value} {ns : List Int} (h : Well p B x (ofPy (.list (ns.map .int)))) (hB : C.B = B) : C.VR C.g0 C.B (.lst (ns.map .int)) x := by
  subst hB
  have e : ofPy (.list (ns.map .int)) = .list (ns.map .int) := by
    have key : ∀ ns : List Int, ofPys (ns.map PyData.int) = ns.map WData.int := by
      intro ns
      induction ns with
      | nil => rfl
      | cons n ns ih => simp only [List.map_cons, ofPys, ofPy, ih]
    simp only [ofPy, key]
  rw [e] at h
  cases h with
  | @list a vs xs h1 h2 =>
    refine .lst (isSome_of h1) ⟨0, h1⟩ ?_
    have key : ∀ (ns : List Int) (vs : List Value), WellAll p C.B vs (ns.map WData.int) → C.VRs C.g0 C.B (ns.map PV.int) vs := by
      intro ns
      induction ns with
      | nil => intro vs h; cases h; exact .nil
      | cons n ns ih =>
        intro vs h
        cases h with
        | cons a b => cases a; exact .cons (.int ..) (ih _ b)
    simpa using key ns vs h2

theorem law_head {B : Heap} (hB : C.B = B) (K : C.OK) {G : Glob} {F : Fn} {f : Str} {D : Nat} (hD : D ≤ 250) (hgl : ∀ x v, G.const x = some v → ∃ y, C.mg x = some y ∧ C.VR C.g0 C.B v y) (hfn : ∀ f F, noDot f = true → G.fn f = some F → FnOK C f F) (hmt : ∀ k x F, G.fn (methK k x) = some F → MtOK C k x F)
    (hbi : ∀ w ∈ biWords, C.mg w = none) (hcl : ∀ k I, C.cls k = some I → I.OK C.B G.atr ∧ C.mg k = some (.ref I.C)) (hat : ∀ x, G.atr x = true → typeLookup (.type "object") x = pure none) (hd : noDot f = true)
    {a : Addr} (ha : C.mg f = some (.ref a)) (hF : G.fn f = some F) {p : Params} {x : Value} {ns : List Int} (hs : s.heap = B) (hw : Well p B x (ofPy (.list (ns.map .int))))
    (hrun : callD G (D + 1) f [.lst (ns.map .int)] [] = .ok (.bool true) [])
    (hQ : ∀ s', (∀ b o, B.get? b = some o → s'.heap.get? b = some o) → s'.os = s.os → s'.gens = s.gens → Q (.bool true) s') : wpAny (model C.prog C.w) callerA (call (.ref a) [x]) Q E s := by
  have R : C.Rel [] C.g0 s.heap := by rw [hs]; exact base_rel hB K
  have hv : C.VRs C.g0 s.heap [.lst (ns.map .int)] [x] := by
    have := well_ints hw hB
    rw [hB] at this
    rw [hs]; exact .cons this .nil
  have hr : runFn ⟨G.const, callD G D, G.atr⟩ F [.lst (ns.map .int)] [] = .ok (.bool true) [] := by
    rw [callD, hF] at hrun; exact hrun
  refine byC fun hZ => ?_
  obtain ⟨a', ha', hF'⟩ := hfn f F hd hF
  refine hZ ?_; clear hZ
  cases ha.symm.trans ha'
  refine fn_call' K (callD_ok K hgl hfn hmt hbi hcl hat D) hF' (by decide) (fun env h1 h2 h3 h4 => ⟨rfl, ?_, ?_, env, [], rfl, h1, h2, h3, h4⟩) R hv (PostE.mk hr fun g' s' y e1 R1 v1 => ?_)
  · show 1 + claimMargin + 1 + 2 * D < 890
    have : claimMargin = 300 := rfl
    exact om317 hD this
  · show 4 + 3 + 12 * D + 700 < cLine
    have : cLine = 9900 := rfl
    exact om316 hD this
  · cases v1
    refine hQ s' (fun b o e => R1.rel.base b o (by rw [hB]; exact e)) e1.os e1.gens

noncomputable def tblChk (rs : List DefRec) (tbl : List (Str × Fn)) : Bool := tbl.all fun p => rs.any fun d => d.name == p.1 && fnChk p.2 d.params d.body d.scope
noncomputable def biChk (view : Program) (loose : List Str) : Bool := biWords.all fun w => !startupNames.contains w && !loose.contains w && !((recsOf view).map (·.name)).contains w && !((litsOf view).map (·.1)).contains w && !((clssOf view loose).map (·.name)).contains w

section
variable {prog : Program} {w : World} {view : Program} {loose : List Str} {mean : ExcName → Option Value} {mg mb : Str → Option Value} {B : Heap}
theorem ok_of_top {cls : Str → Option CI} (T : Top view loose mean mg mb B) (ht : prog.given.tree = none) (hi : importsNone view = true) : (Fix.mk prog w B mg mb cls).OK :=
  ⟨T.g, T.b, T.nolimit, T.nodigits, T.builtins, T.seer hi, ht⟩
theorem bi_of_top (T : Top view loose mean mg mb B) (hc : biChk view loose = true) : ∀ x ∈ biWords, mg x = none := fun x hx => by
  have h1 := List.all_eq_true.mp hc x hx
  simp only [Bool.and_eq_true, Bool.not_eq_true'] at h1
  refine byC fun hZ => ?_
  obtain ⟨⟨⟨⟨h1, h2⟩, h3⟩, h4⟩, h5⟩ := h1
  refine hZ ?_; clear hZ
  have nc : ∀ {l : List Str}, l.contains x = false → x ∉ l := fun h q => by rw [List.contains_iff_mem.mpr q] at h; cases h
  exact T.free x (nc h1) (nc h2) (nc h3) (nc h4) (nc h5)
end

theorem post_true (l : OpenLaw) (args ds : List WData) : l.row.claim.post args (.bool true) ds = true := by
  show (WShape.has [] (.bool true) .bool && WTm.holds [] (.eq .res (.lit (.bool true))) _) = true
  have h1 : WShape.has [] (.bool true) .bool = true := by first | rfl | decide +kernel
  rw [h1, Bool.true_and]
  unfold WTm.holds
  rw [WTm.value]
  simp only [WTm.value]
  first | rfl | decide +kernel | simp [same]
end Mine

set_option autoImplicit false
set_option backward.match.sparseCases true
set_option linter.unusedVariables false
namespace Mine
open PySem PyProof.Rows PySem.SeqAt PySem.Calls PySem.W

/-! ## what the top leaves: classes, dicts of numbers -/
/-- a dict of the top: texts and numbers -/
noncomputable def keyOf : Value → Option Str
  | .str x _ => some x
  | _ => none
noncomputable def numOf : Value → Option Int
  | .int i _ => some i
  | _ => none
set_option genInjectivity true
structure DSeen where
  cls : Value
  dict : Option Addr
  slots : Nat
  apart : Bool
  es : List (Int × Option Str × Option Int)
noncomputable def dictSeen (h : Heap) (x : Str) : Option DSeen := match h.nsMap mainGlobals x with
  | some (.ref a) => match h.get? a with
    | some o => match o.data with
      | .dict es _ => some ⟨o.cls, o.dict, o.slots.size, decide (a ≠ sysModules), es.toList.map fun e => (e.hash, keyOf e.key, numOf e.val)⟩
      | _ => none
    | none => none
  | _ => none
noncomputable def dictGood (w : World) (l : List (Str × Int)) : DSeen := ⟨.type "dict", none, 0, true, l.map fun kv => (hashStr w kv.1, some kv.1, some kv.2)⟩

/-- a name of the top -/
noncomputable def Named (h : Heap) (x : Str) (v : Value) : Prop := ∃ o es ep, h.get? mainGlobals = some o ∧ o.data = .dict es ep ∧ nsFind es x = some v
theorem Named.of_nsMap {h : Heap} {x : Str} {v : Value} (e : h.nsMap mainGlobals x = some v) : Named h x v := by
  unfold Heap.nsMap at e
  cases ho : h.get? mainGlobals with
  | none => rw [ho] at e; cases e
  | some o =>
    rw [ho] at e
    cases hd : o.data with
    | dict es ep => simp only [hd] at e; exact ⟨o, es, ep, ho, hd, e⟩
    | _ => simp only [hd] at e; cases e
theorem Named.keeps {h h' : Heap} {x : Str} {v : Value} (q : Named h x v) (hk : ∀ b o, h.get? b = some o → h'.get? b = some o) : Named h' x v :=
  let ⟨o, es, ep, h1, h2⟩ := q; ⟨o, es, ep, hk _ _ h1, h2⟩
theorem Named.mg {h : Heap} {x : Str} {v : Value} {mg : Str → Option Value} (q : Named h x v) (hg : h.Ns mainGlobals mg) : mg x = some v := by
  refine byC fun hZ => ?_
  obtain ⟨o, es, ep, h1, h2, h3⟩ := q
  obtain ⟨o', es', ep', k1, k2, _, k3⟩ := hg
  refine hZ ?_; clear hZ
  cases h1.symm.trans k1
  rw [h2] at k2
  cases k2
  rw [← k3]; exact h3

theorem keyOf_eq {v : Value} {x : Str} (h : keyOf v = some x) : ∃ t, v = .str x t := by cases v <;> first | exact ⟨_, congrArg (Value.str · _) (Option.some.inj h)⟩ | cases h
theorem numOf_eq {v : Value} {x : Int} (h : numOf v = some x) : ∃ t, v = .int x t := by cases v <;> first | exact ⟨_, congrArg (Value.int · _) (Option.some.inj h)⟩ | cases h

/-- the dict in the heap -/
noncomputable def DictIs (prog : Program) (w : World) (h : Heap) (x : Str) (l : List (Str × Int)) : Prop := ∃ a kvs, Named h x (.ref a) ∧ a ≠ sysModules ∧ h.DictOf (strKind prog w) a kvs ∧ kvs.map (·.1) = l.map (·.1) ∧ ∀ (i : Nat) k v, kvs[i]? = some (k, v) → ∃ n t, l[i]? = some (k, n) ∧ v = .int n t
theorem dictIs_of {prog : Program} {w : World} {h : Heap} {x : Str} {l : List (Str × Int)} (hn : (l.map (·.1)).Nodup) (e : dictSeen h x = some (dictGood w l)) : DictIs prog w h x l := by
  unfold dictSeen at e
  cases hv : h.nsMap mainGlobals x with
  | none => rw [hv] at e; cases e
  | some v =>
    rw [hv] at e
    cases v with
    | ref a =>
      cases ho : h.get? a with
      | none => simp only [ho] at e; cases e
      | some o =>
        simp only [ho] at e
        cases hd : o.data with
        | dict es ep =>
          simp only [hd, dictGood, Option.some.injEq, DSeen.mk.injEq] at e
          refine byC fun hZ => ?_
          obtain ⟨e1, e2, e3, e4, e5⟩ := e
          refine hZ ?_; clear hZ
          have key : ∀ (es : List DictEntry) (l : List (Str × Int)), es.map (fun e => (e.hash, keyOf e.key, numOf e.val)) = l.map (fun kv => (hashStr w kv.1, some kv.1, some kv.2)) →
              ∃ kvs : List (Str × Value), (∀ e ∈ es, ∃ k, (strKind prog w).is k e.key = true ∧ e.hash = (strKind prog w).hash k) ∧ Pairs (strKind prog w) es kvs ∧ kvs.map (·.1) = l.map (·.1) ∧ ∀ (i : Nat) k v, kvs[i]? = some (k, v) → ∃ n t, l[i]? = some (k, n) ∧ v = .int n t := by
            intro es
            induction es with
            | nil =>
              intro l hl
              cases l with
              | nil => exact ⟨[], by simp, .nil, rfl, by simp⟩
              | cons => cases hl
            | cons en es ih =>
              intro l hl
              cases l with
              | nil => cases hl
              | cons p l =>
                rw [List.map_cons, List.map_cons, List.cons.injEq] at hl
                refine byC fun hZ => ?_
                obtain ⟨h1, h2⟩ := hl
                obtain ⟨kvs, i1, i2, i3, i4⟩ := ih l h2
                refine hZ ?_; clear hZ
                simp only [Prod.mk.injEq] at h1
                refine byC fun hZ => ?_
                obtain ⟨q1, q2, q3⟩ := h1
                obtain ⟨t, q2⟩ := keyOf_eq q2
                obtain ⟨u, q3⟩ := numOf_eq q3
                refine hZ ?_; clear hZ
                refine ⟨(p.1, en.val) :: kvs, ?_, ?_, ?_, ?_⟩
                · intro e he
                  rcases List.mem_cons.mp he with rfl | he
                  · exact ⟨p.1, by rw [q2]; exact strKind_is prog w p.1 t, q1⟩
                  · exact i1 e he
                · exact .cons (by rw [q2]; exact strKind_is prog w p.1 t) rfl i2
                · rw [List.map_cons, List.map_cons, i3]
                · intro i k v hi
                  cases i with
                  | zero => cases hi; exact ⟨p.2, u, rfl, q3⟩
                  | succ i => exact i4 i k v hi
          refine byC fun hZ => ?_
          obtain ⟨kvs, k1, k2, k3, k4⟩ := key es.toList l e5
          refine hZ ?_; clear hZ
          refine ⟨a, kvs, .of_nsMap hv, of_decide_eq_true e4, ⟨o, es, ep, ho, ⟨e1, e2, Array.eq_empty_of_size_eq_zero e3⟩, hd, fun e he => k1 e (Array.mem_toList_iff.mpr he), k2, by rw [k3]; exact hn⟩, k3, k4⟩
        | _ => simp only [hd] at e; cases e
    | _ => cases e
theorem DictIs.keeps {prog : Program} {w : World} {h h' : Heap} {x : Str} {l : List (Str × Int)} (q : DictIs prog w h x l) (hk : ∀ b o, h.get? b = some o → h'.get? b = some o) : DictIs prog w h' x l := by
  refine byC fun hZ => ?_
  obtain ⟨a, kvs, h1, h2, ⟨o, es, ep, h3, r⟩, h4⟩ := q
  refine hZ ?_; clear hZ
  exact ⟨a, kvs, h1.keeps hk, h2, ⟨o, es, ep, hk _ _ h3, r⟩, h4⟩
/-- as a value -/
noncomputable def dictPV (l : List (Str × Int)) : PV := .dct (l.map fun kv => (kv.1, .int kv.2))
theorem DictIs.vr {C : Fix} {x : Str} {l : List (Str × Int)} (q : DictIs C.prog C.w C.B x l) (hg : C.B.Ns mainGlobals C.mg) : ∃ y, C.mg x = some y ∧ C.VR C.g0 C.B (dictPV l) y := by
  refine byC fun hZ => ?_
  obtain ⟨a, kvs, h1, h2, h3, h4, h5⟩ := q
  refine hZ ?_; clear hZ
  refine ⟨.ref a, h1.mg hg, .dct ?_ h2 h3 ?_⟩
  · obtain ⟨o, es, ep, e, _⟩ := h3; exact isSome_of e
  · clear h1 h3
    have key : ∀ (l : List (Str × Int)) (kvs : List (Str × Value)), kvs.map (·.1) = l.map (·.1) → (∀ (i : Nat) k v, kvs[i]? = some (k, v) → ∃ n t, l[i]? = some (k, n) ∧ v = .int n t) → C.VRd C.g0 C.B (l.map fun kv => (kv.1, .int kv.2)) kvs := by
      intro l
      induction l with
      | nil => intro kvs e _; cases kvs with | nil => exact .nil | cons => cases e
      | cons p l ih =>
        intro kvs e hh
        cases kvs with
        | nil => cases e
        | cons q kvs =>
          rw [List.map_cons, List.map_cons, List.cons.injEq] at e
          refine byC fun hZ => ?_
          obtain ⟨n, t, e1, e2⟩ := hh 0 q.1 q.2 rfl
          refine hZ ?_; clear hZ
          cases e1
          obtain ⟨k, v⟩ := q
          cases e2
          exact .cons (.int ..) (ih kvs e.2 fun i k v hi => hh (i + 1) k v hi)
    exact key l kvs h4 h5

/-- the classes in the heap -/
noncomputable def ClsIs (cs : List ClsRec) (h : Heap) (cls : Str → Option CI) : Prop := (∀ k I, cls k = some I → ∃ c ∈ cs, c.name = k ∧ Named h k (.ref I.C) ∧ PlainAt h c I.C I.N I.mN) ∧ ∀ c ∈ cs, ∃ I, cls c.name = some I
theorem ClsIs.keeps {cs : List ClsRec} {h h' : Heap} {cls : Str → Option CI} (q : ClsIs cs h cls) (hk : ∀ b o, h.get? b = some o → h'.get? b = some o) : ClsIs cs h' cls :=
  ⟨fun k I e => let ⟨c, h1, h2, h3, h4⟩ := q.1 k I e; ⟨c, h1, h2, h3.keeps hk, h4.keeps hk⟩, q.2⟩
theorem named_to {h : Heap} {c : ClsRec} {k : Str} {v : Value} (e : c.name = k) (q : Named h c.name v) : Named h k v := e ▸ q
open Classical in
theorem clsIs_of {cs : List ClsRec} {h : Heap} (e : ∀ c ∈ cs, h.plainShapeAt c = some c.plainShape) : ∃ cls, ClsIs cs h cls := by
  have hex : ∀ c ∈ cs, ∃ I : CI, Named h c.name (.ref I.C) ∧ PlainAt h c I.C I.N I.mN := fun c hc => by
    obtain ⟨Cc, N, h1, h2⟩ := plainAt_of_shape (e c hc)
    exact ⟨⟨Cc, N, _⟩, .of_nsMap h1, h2⟩
  refine ⟨fun k => if hq : ∃ c ∈ cs, c.name = k then some (hex hq.choose hq.choose_spec.1).choose else none, fun k I hI => ?_, fun c hc => ?_⟩
  · simp only at hI
    split at hI
    · rename_i hq
      cases hI
      have hs := (hex hq.choose hq.choose_spec.1).choose_spec
      refine ⟨hq.choose, hq.choose_spec.1, hq.choose_spec.2, ?_, hs.2⟩
      exact named_to hq.choose_spec.2 hs.1
    · cases hI
  · have hq : ∃ c' ∈ cs, c'.name = c.name := ⟨c, hc, rfl⟩
    exact ⟨_, dif_pos hq⟩

/-- the hook -/
structure HookD where
  cs : List ClsRec
  ds : List (Str × List (Str × Int))
theorem hook_all {α β : Type} {f g : α → β} {l : List α} (h : l.map f = l.map g) : ∀ x ∈ l, f x = g x := by
  induction l with
  | nil => intro x hx; cases hx
  | cons a l ih =>
    rw [List.map_cons, List.map_cons, List.cons.injEq] at h
    intro x hx
    rcases List.mem_cons.mp hx with rfl | hx
    · exact h.1
    · exact ih h.2 x hx
noncomputable def HookD.hook (prog : Program) (k : HookD) (hn : ∀ d ∈ k.ds, (d.2.map (·.1)).Nodup) : Hook where
  α := List (Option PlainShape) × List (Option DSeen)
  obs s := (k.cs.map fun c => s.heap.plainShapeAt c, k.ds.map fun d => dictSeen s.heap d.1)
  val w := (k.cs.map fun c => some c.plainShape, k.ds.map fun d => some (dictGood w d.2))
  says w h := (∃ cls, ClsIs k.cs h cls) ∧ ∀ d ∈ k.ds, DictIs prog w h d.1 d.2
  of w s e := ⟨clsIs_of (hook_all (congrArg Prod.fst e)), fun d hd => dictIs_of (hn d hd) (hook_all (congrArg Prod.snd e) d hd)⟩
  keeps w h h' q hk := ⟨let ⟨cls, q1⟩ := q.1; ⟨cls, q1.keeps hk⟩, fun d hd => (q.2 d hd).keeps hk⟩
end Mine

set_option autoImplicit false
set_option backward.match.sparseCases true
set_option linter.unusedVariables false
namespace Mine
open PySem PyProof.Rows PySem.SeqAt PySem.Calls PySem.W
theorem one_dot : ∀ {a b a' b' : List Nat}, a ++ 46 :: b = a' ++ 46 :: b' → 46 ∉ a' → 46 ∉ b' → a = a' ∧ b = b'
  | [], b, [], b', h, _, _ => ⟨rfl, (List.cons.inj h).2⟩
  | [], b, y :: a', b', h, h1, _ => absurd (List.mem_cons.mpr (.inl (List.cons.inj h).1)) h1
  | y :: a, b, [], b', h, _, h2 => absurd (show 46 ∈ b' from (List.cons.inj h).2 ▸ List.mem_append_right _ List.mem_cons_self) h2
  | y :: a, b, y' :: a', b', h, h1, h2 => by
    obtain ⟨e1, e2⟩ := List.cons.inj h
    obtain ⟨q1, q2⟩ := one_dot e2 (fun q => h1 (List.mem_cons_of_mem _ q)) h2
    exact ⟨by rw [e1, q1], q2⟩
theorem methK_list (k x : Str) : (methK k x).cps.toList = k.cps.toList ++ 46 :: x.cps.toList := by
  show ((k.cps ++ #[46]) ++ x.cps).toList = _
  simp
theorem noDot_mem {f : Str} (h : noDot f = true) : 46 ∉ f.cps.toList := fun q => by
  unfold noDot at h
  rw [Array.contains_iff_mem.mpr (Array.mem_toList_iff.mp q)] at h
  cases h
theorem methK_dot (k x : Str) : noDot (methK k x) = false := by
  cases h : noDot (methK k x) with
  | false => rfl
  | true => exact absurd (by rw [methK_list]; exact List.mem_append_right _ List.mem_cons_self) (noDot_mem h)
theorem Str.of_list {a b : Str} (h : a.cps.toList = b.cps.toList) : a = b := by
  obtain ⟨a⟩ := a; obtain ⟨b⟩ := b
  exact congrArg Str.mk (Array.toList_inj.mp h)
theorem methK_inj {k x k' x' : Str} (h : methK k x = methK k' x') (h1 : noDot k' = true) (h2 : noDot x' = true) : k = k' ∧ x = x' := by
  have e := congrArg (fun s : Str => s.cps.toList) h
  simp only [methK_list] at e
  obtain ⟨q1, q2⟩ := one_dot e (noDot_mem h1) (noDot_mem h2)
  exact ⟨Str.of_list q1, Str.of_list q2⟩

noncomputable def mtChk (cs : List ClsRec) (tbl : List (Str × Fn)) : Bool := tbl.all fun p => noDot p.1 || cs.any fun c => noDot c.name && c.meths.any fun m => noDot m.name && p.1 == methK c.name m.name && fnChk p.2 m.params m.body m.scope
noncomputable def quietChk (cs : List ClsRec) (l : List Str) : Bool := cs.all fun c => l.all fun x => c.quiet.contains x
noncomputable def tblChkD (rs : List DefRec) (tbl : List (Str × Fn)) : Bool := tbl.all fun p => !noDot p.1 || rs.any fun d => d.name == p.1 && fnChk p.2 d.params d.body d.scope
section
variable {prog : Program} {w : World} {mg mb : Str → Option Value} {B : Heap} {cs : List ClsRec} {cls : Str → Option CI}
theorem cls_facts (q : ClsIs cs B cls) (hg : B.Ns mainGlobals mg) {l : List Str} (hq : quietChk cs l = true) : ∀ k I, cls k = some I → I.OK B (fun x => l.contains x) ∧ mg k = some (.ref I.C) := fun k I h => by
  refine byC fun hZ => ?_
  obtain ⟨c, hc, _, hn, P⟩ := q.1 k I h
  refine hZ ?_; clear hZ
  have h1 := List.all_eq_true.mp hq c hc
  refine ⟨⟨P.cls, P.quiet _ (by simp [ClsRec.quiet]), P.quiet _ (by simp [ClsRec.quiet]), P.quiet _ (by simp [ClsRec.quiet]), fun x hx => P.quiet x ?_⟩, hn.mg hg⟩
  exact List.contains_iff_mem.mp (List.all_eq_true.mp h1 x (List.contains_iff_mem.mp hx))
theorem meths_ok (q : ClsIs cs B cls) (huniq : (cs.map (·.name)).Nodup) {tbl : List (Str × Fn)} (hc : mtChk cs tbl = true) : ∀ k x F, tbl.lookup (methK k x) = some F → MtOK (Fix.mk prog w B mg mb cls) k x F := fun k x F hF => by
  have h1 := List.all_eq_true.mp hc _ (lookup_mem_pair hF)
  simp only [methK_dot, Bool.false_or] at h1
  refine byC fun hZ => ?_
  obtain ⟨c, hcm, h2⟩ := List.any_eq_true.mp h1
  obtain ⟨d1, h3⟩ := and2 h2
  obtain ⟨m, hm, h4⟩ := List.any_eq_true.mp h3
  obtain ⟨h5, hck⟩ := and2 h4
  obtain ⟨d2, h6⟩ := and2 h5
  obtain ⟨rfl, rfl⟩ := methK_inj (by simpa using h6) d1 d2
  obtain ⟨I, hI⟩ := q.2 c hcm
  obtain ⟨c', hc', hn', _, P⟩ := q.1 _ _ hI
  refine hZ ?_; clear hZ
  have hcc : c' = c := by
    refine byC fun hZ => ?_
    obtain ⟨i, hi, rfl⟩ := List.getElem_of_mem hc'
    obtain ⟨j, hj, rfl⟩ := List.getElem_of_mem hcm
    refine hZ ?_; clear hZ
    have : i = j := (List.getElem_inj (h₀ := by simpa using hi) (h₁ := by simpa using hj) huniq).mp (by simpa using hn')
    subst this; rfl
  subst hcc
  refine byC fun hZ => ?_
  obtain ⟨f, o, pm, cd, doc, q1, q2, q3, q4, q5⟩ := P.meths m hm
  refine hZ ?_; clear hZ
  exact ⟨I, f, o, _, hI, q1, q2, q3, typeLookup_type _ _, o, _, _, _, _, _, _, _, _, q2, q4, q5, fnChk_of hck⟩
variable {view : Program} {loose : List Str} {mean : ExcName → Option Value}
theorem fns_of_topD (T : Top view loose mean mg mb B) {tbl : List (Str × Fn)} (hc : tblChkD (recsOf view) tbl = true) : ∀ f F, noDot f = true → tbl.lookup f = some F → FnOK (Fix.mk prog w B mg mb cls) f F := fun f F hdot hf => by
  have h1 := List.all_eq_true.mp hc _ (lookup_mem_pair hf)
  simp only [hdot, Bool.not_true, Bool.false_or] at h1
  refine byC fun hZ => ?_
  obtain ⟨d, hd, h2⟩ := List.any_eq_true.mp h1
  obtain ⟨h3, h4⟩ := and2 h2
  have h3 : d.name = f := by simpa using h3
  obtain ⟨a, o, pm, code, doc, q1, q2, q3, q4⟩ := T.fn d hd
  refine hZ ?_; clear hZ
  rw [h3] at q1 q3 q4
  exact ⟨a, q1, o, f, f, d.params, d.body, d.scope, pm, code, doc, q2, q3, q4, fnChk_of h4⟩
end
end Mine

set_option autoImplicit false
set_option maxRecDepth 100000
set_option linter.unusedSimpArgs false
set_option linter.unusedVariables false
set_option exponentiation.threshold 2000
namespace Mine
open PySem
noncomputable def F_measure_of_dict : Fn := ⟨1, 2,
  (.cons (.ret 0 (.bi .tuple (.cons (.comp (.tup (.cons (.loc 1) (.cons (.idx (.loc 0) (.loc 1)) .nil))) (.one 1) (.bi .sorted (.cons (.loc 0) .nil)) (.cmp .NotEq (.idx (.loc 0) (.loc 1)) (.const (.int 0)))) .nil)))
  .nil), false⟩
noncomputable def F_put_to : Fn := ⟨3, 5,
  (.cons (.forS (.many [3, 4]) (.loc 1)
    (.cons (.setitem (.loc 0) (.loc 3) 0 (.bin .Add (.meth (.loc 0) .get (.cons (.loc 3) (.cons (.const (.int 0)) .nil))) (.bin .Mult (.loc 4) (.loc 2))))
    .nil) [3, 4])
  .nil), true⟩
noncomputable def F_times : Fn := ⟨2, 3,
  (.cons (.assign 2 1 (.bi .dict (.cons (.loc 0) .nil)))
  (.cons (.expr (.call "put_to" (.cons (.loc 2) (.cons (.loc 1) (.cons (.const (.int 1)) .nil)))))
  (.cons (.ret 0 (.call "measure_of_dict" (.cons (.loc 2) .nil)))
  .nil))), false⟩
noncomputable def F_over : Fn := ⟨2, 3,
  (.cons (.assign 2 1 (.bi .dict (.cons (.loc 0) .nil)))
  (.cons (.expr (.call "put_to" (.cons (.loc 2) (.cons (.loc 1) (.cons (.neg (.const (.int 1))) .nil)))))
  (.cons (.ret 0 (.call "measure_of_dict" (.cons (.loc 2) .nil)))
  .nil))), false⟩
noncomputable def F_power : Fn := ⟨2, 3,
  (.cons (.assign 2 1 .edict)
  (.cons (.expr (.call "put_to" (.cons (.loc 2) (.cons (.loc 0) (.cons (.loc 1) .nil)))))
  (.cons (.ret 0 (.call "measure_of_dict" (.cons (.loc 2) .nil)))
  .nil))), false⟩
noncomputable def F_parts_of : Fn := ⟨1, 1,
  (.cons (.ret 0 (.bi .list (.cons (.sliceFT (.loc 0) (.const (.int 1)) (.bin .Add (.const (.int 1)) (.idx (.glob "PARTS") (.idx (.loc 0) (.const (.int 0)))))) .nil)))
  .nil), false⟩
noncomputable def F_all_within : Fn := ⟨1, 3,
  (.cons (.assign 1 1 (.lst (.cons (.loc 0) .nil)))
  (.cons (.forS (.one 2) (.call "parts_of" (.cons (.loc 0) .nil))
    (.cons (.expr (.meth (.loc 1) .extend (.cons (.call "all_within" (.cons (.loc 2) .nil)) .nil)))
    .nil) [2])
  (.cons (.ret 0 (.loc 1))
  .nil))), false⟩
noncomputable def F_inputs : Fn := ⟨1, 3,
  (.cons (.assign 1 1 .edict)
  (.cons (.forS (.one 2) (.call "all_within" (.cons (.loc 0) .nil))
    (.cons (.ite (.cmp .Eq (.idx (.loc 2) (.const (.int 0))) (.const (.str "input")))
      (.cons (.setitem (.loc 1) (.idx (.loc 2) (.const (.int 1))) 0 (.const (.bool true)))
      .nil)
      .nil)
    .nil) [2])
  (.cons (.ret 0 (.bi .sorted (.cons (.loc 1) .nil)))
  .nil))), false⟩
noncomputable def F_noughts : Fn := ⟨1, 2,
  (.cons (.ret 0 (.bi .len (.cons (.comp (.loc 1) (.one 1) (.call "all_within" (.cons (.loc 0) .nil)) (.cmp .Eq (.idx (.loc 1) (.const (.int 0))) (.const (.str "nought")))) .nil)))
  .nil), false⟩
noncomputable def F_own_looker : Fn := ⟨1, 4,
  (.cons (.assign 1 1 .edict)
  (.cons (.forS (.one 2) (.call "inputs" (.cons (.loc 0) .nil))
    (.cons (.setitem (.loc 1) (.loc 2) 0 (.tup (.cons (.tup (.cons (.bin .Add (.const (.str "=")) (.loc 2)) (.cons (.const (.int 1)) .nil))) .nil)))
    .nil) [2])
  (.cons (.ret 0 (.new "Looker" (.cons (.loc 1) (.cons (.comp (.tup (.cons (.tup (.cons (.bin .Add (.const (.str "0")) (.bi .str (.cons (.loc 3) .nil))) (.cons (.const (.int 1)) .nil))) .nil)) (.one 3) (.bi .range (.cons (.call "noughts" (.cons (.loc 0) .nil)) .nil)) (.const (.bool true))) .nil))))
  .nil))), true⟩
noncomputable def F_measure_of : Fn := ⟨1, 1,
  (.cons (.ret 0 (.umeth (.call "own_looker" (.cons (.loc 0) .nil)) "measure" (.cons (.loc 0) .nil)))
  .nil), false⟩
noncomputable def F_alike : Fn := ⟨1, 2,
  (.cons (.assign 1 0 (.call "own_looker" (.cons (.loc 0) .nil)))
  (.cons (.expr (.umeth (.loc 1) "measure" (.cons (.loc 0) .nil)))
  (.cons (.ret 0 (.attr (.loc 1) "noted"))
  .nil))), false⟩
noncomputable def F_law_cell_at : Fn := ⟨2, 2,
  (.cons (.ite (.cmp .Lt (.loc 1) (.bi .len (.cons (.loc 0) .nil)))
    (.cons (.ret 0 (.bin .Mod (.idx (.loc 0) (.loc 1)) (.const (.int 1000000000000000003))))
    .nil)
    .nil)
  (.cons (.ret 0 (.const (.int 0)))
  .nil)), false⟩
noncomputable def F_law_mix : Fn := ⟨2, 3,
  (.cons (.assign 2 0 (.bin .Mod (.bin .Add (.bin .Add (.bin .Mult (.loc 0) (.const (.int 48271))) (.bin .Mult (.loc 1) (.const (.int 69621)))) (.const (.int 11))) (.const (.int 2147483647))))
  (.cons (.ret 0 (.bin .Mod (.bin .Add (.bin .Add (.bin .Mult (.loc 2) (.loc 2)) (.bin .Mult (.const (.int 7)) (.loc 2))) (.loc 1)) (.const (.int 2147483629))))
  .nil)), false⟩
noncomputable def F_law_words : Fn := ⟨2, 11,
  (.cons (.assign 2 0 (.const (.str "abcdefghijklmnopqrstuvwxyz")))
  (.cons (.assign 3 0 (.bin .Add (.const (.int 1)) (.bin .Mod (.loc 0) (.const (.int 8)))))
  (.cons (.assign 4 0 (.bin .Mod (.bin .FloorDiv (.loc 0) (.const (.int 8))) (.loc 3)))
  (.cons (.assign 5 0 (.idx (.loc 2) (.bin .Mod (.bin .FloorDiv (.loc 0) (.const (.int 64))) (.const (.int 26)))))
  (.cons (.assign 6 0 (.bin .Mod (.bin .FloorDiv (.loc 0) (.const (.int 3))) (.const (.int 4))))
  (.cons (.assign 7 1 (.lst .nil))
  (.cons (.forS (.one 8) (.bi .range (.cons (.loc 1) .nil))
    (.cons (.assign 9 0 (.idx (.loc 2) (.bin .Mod (.bin .Add (.bin .FloorDiv (.loc 0) (.const (.int 1664))) (.bin .Mult (.const (.int 5)) (.loc 8))) (.const (.int 26)))))
    (.cons (.assign 10 0 (.bin .Add (.bin .Add (.bin .Mult (.loc 5) (.loc 4)) (.loc 9)) (.bin .Mult (.loc 5) (.bin .Sub (.bin .Sub (.loc 3) (.const (.int 1))) (.loc 4)))))
    (.cons (.ite (.cmp .Eq (.loc 6) (.const (.int 0)))
      (.cons (.assign 10 0 (.bin .Add (.loc 9) (.bin .Mult (.loc 5) (.bin .Mod (.bin .Add (.bin .Mult (.const (.int 3)) (.loc 8)) (.bin .FloorDiv (.loc 0) (.const (.int 9)))) (.const (.int 8))))))
      .nil)
      .nil)
    (.cons (.ite (.andE (.cons (.cmp .Eq (.loc 6) (.const (.int 1))) (.cons (.cmp .Lt (.loc 8) (.const (.int 8))) .nil)))
      (.cons (.assign 10 0 (.bin .Mult (.loc 5) (.bin .Add (.const (.int 1)) (.bin .Mod (.bin .Add (.bin .Mult (.const (.int 3)) (.loc 8)) (.bin .FloorDiv (.loc 0) (.const (.int 9)))) (.const (.int 8))))))
      .nil)
      .nil)
    (.cons (.ite (.andE (.cons (.cmp .Eq (.loc 6) (.const (.int 1))) (.cons (.cmp .Gt (.loc 8) (.const (.int 7))) .nil)))
      (.cons (.assign 10 0 (.bin .Add (.idx (.loc 2) (.bin .Mod (.bin .Sub (.bin .Add (.bin .FloorDiv (.loc 0) (.const (.int 64))) (.loc 8)) (.const (.int 7))) (.const (.int 26)))) (.bin .Mult (.loc 5) (.bin .Mod (.loc 8) (.const (.int 8))))))
      .nil)
      .nil)
    (.cons (.expr (.meth (.loc 7) .append (.cons (.loc 10) .nil)))
    .nil)))))) [8, 9, 10])
  (.cons (.ret 0 (.loc 7))
  .nil)))))))), false⟩
noncomputable def F_law_made : Fn := ⟨1, 2,
  (.cons (.ret 0 (.bi .tuple (.cons (.comp (.tup (.cons (.loc 1) (.cons (.idx (.loc 0) (.loc 1)) .nil))) (.one 1) (.bi .sorted (.cons (.loc 0) .nil)) (.cmp .NotEq (.idx (.loc 0) (.loc 1)) (.const (.int 0)))) .nil)))
  .nil), false⟩
noncomputable def F_law_whole : Fn := ⟨1, 1,
  (.cons (.ret 0 (.andE (.cons (.bi (.isinst .int) (.cons (.loc 0) .nil)) (.cons (.notE (.bi (.isinst .bool) (.cons (.loc 0) .nil))) .nil))))
  .nil), false⟩
noncomputable def F_law_is_measure : Fn := ⟨1, 3,
  (.cons (.ite (.notE (.bi (.isinst .tuple) (.cons (.loc 0) .nil)))
    (.cons (.ret 0 (.const (.bool false)))
    .nil)
    .nil)
  (.cons (.assign 1 0 (.const (.str "")))
  (.cons (.forS (.one 2) (.loc 0)
    (.cons (.ite (.orE (.cons (.notE (.bi (.isinst .tuple) (.cons (.loc 2) .nil))) (.cons (.cmp .NotEq (.bi .len (.cons (.loc 2) .nil)) (.const (.int 2))) (.cons (.notE (.bi (.isinst .str) (.cons (.idx (.loc 2) (.const (.int 0))) .nil))) (.cons (.notE (.call "_law_whole" (.cons (.idx (.loc 2) (.const (.int 1))) .nil))) .nil)))))
      (.cons (.ret 0 (.const (.bool false)))
      .nil)
      .nil)
    (.cons (.ite (.orE (.cons (.cmp .LtE (.idx (.loc 2) (.const (.int 0))) (.loc 1)) (.cons (.cmp .Eq (.idx (.loc 2) (.const (.int 1))) (.const (.int 0))) .nil)))
      (.cons (.ret 0 (.const (.bool false)))
      .nil)
      .nil)
    (.cons (.assign 1 0 (.idx (.loc 2) (.const (.int 0))))
    .nil))) [2])
  (.cons (.ret 0 (.const (.bool true)))
  .nil)))), false⟩
noncomputable def F_law_small : Fn := ⟨2, 6,
  (.cons (.assign 2 1 .edict)
  (.cons (.forS (.one 3) (.bi .range (.cons (.bin .Mod (.loc 0) (.const (.int 4))) .nil))
    (.cons (.assign 4 0 (.call "_law_mix" (.cons (.loc 0) (.cons (.loc 3) .nil))))
    (.cons (.assign 5 0 (.idx (.lst (.cons (.bin .Sub (.bin .Mod (.bin .FloorDiv (.loc 4) (.bi .len (.cons (.loc 1) .nil))) (.const (.int 5))) (.const (.int 2))) (.cons (.bin .Sub (.bin .Mod (.bin .FloorDiv (.loc 4) (.const (.int 256))) (.const (.int 41))) (.const (.int 20))) .nil))) (.bin .FloorDiv (.bin .Mod (.bin .FloorDiv (.loc 4) (.const (.int 16))) (.const (.int 9))) (.const (.int 8)))))
    (.cons (.setitem (.loc 2) (.idx (.loc 1) (.bin .Mod (.loc 4) (.bi .len (.cons (.loc 1) .nil)))) 0 (.loc 5))
    .nil))) [3, 4, 5])
  (.cons (.ret 0 (.call "_law_made" (.cons (.loc 2) .nil)))
  .nil))), false⟩
noncomputable def F_law_shared : Fn := ⟨2, 3,
  (.cons (.whileS (.cmp .NotEq (.loc 1) (.const (.int 0)))
    (.cons (.assign 2 0 (.bin .Mod (.loc 0) (.loc 1)))
    (.cons (.assign 0 0 (.loc 1))
    (.cons (.assign 1 0 (.loc 2))
    .nil))) [2])
  (.cons (.ret 0 (.loc 0))
  .nil)), false⟩
noncomputable def F_law_lowest : Fn := ⟨2, 3,
  (.cons (.assign 2 0 (.call "_law_shared" (.cons (.bi .abs (.cons (.loc 0) .nil)) (.cons (.bi .abs (.cons (.loc 1) .nil)) .nil))))
  (.cons (.ite (.cmp .Lt (.loc 1) (.const (.int 0)))
    (.cons (.assign 2 0 (.bin .Sub (.const (.int 0)) (.loc 2)))
    .nil)
    .nil)
  (.cons (.ret 0 (.tup (.cons (.bin .FloorDiv (.loc 0) (.loc 2)) (.cons (.bin .FloorDiv (.loc 1) (.loc 2)) .nil))))
  .nil))), false⟩
noncomputable def F_law_number : Fn := ⟨1, 1,
  (.cons (.ite (.cmp .Lt (.bin .Mod (.loc 0) (.const (.int 6))) (.const (.int 4)))
    (.cons (.ret 0 (.call "_law_lowest" (.cons (.bin .Sub (.bin .Mod (.bin .FloorDiv (.loc 0) (.const (.int 6))) (.const (.int 41))) (.const (.int 20))) (.cons (.bin .Add (.const (.int 1)) (.bin .Mod (.bin .FloorDiv (.loc 0) (.const (.int 246))) (.const (.int 5)))) .nil))))
    .nil)
    .nil)
  (.cons (.ite (.cmp .Eq (.bin .Mod (.loc 0) (.const (.int 6))) (.const (.int 4)))
    (.cons (.ret 0 (.tup (.cons (.const (.int 0)) (.cons (.const (.int 1)) .nil))))
    .nil)
    .nil)
  (.cons (.ret 0 (.call "_law_lowest" (.cons (.bin .Sub (.bin .Mod (.bin .Mult (.bin .FloorDiv (.loc 0) (.bin .Pow (.const (.int 6)) (.const (.int 3)))) (.const (.int 7))) (.bin .Add (.bin .Mult (.const (.int 2)) (.bin .Pow (.const (.int 10)) (.const (.int 9)))) (.const (.int 1)))) (.bin .Pow (.const (.int 10)) (.const (.int 9)))) (.cons (.bin .Add (.const (.int 1)) (.bin .Mod (.bin .FloorDiv (.loc 0) (.const (.int 6))) (.bin .Pow (.const (.int 10)) (.const (.int 9))))) .nil))))
  .nil))), false⟩
noncomputable def F_law_leaf : Fn := ⟨3, 4,
  (.cons (.assign 3 0 (.bin .FloorDiv (.loc 0) (.const (.int 6))))
  (.cons (.ite (.cmp .Lt (.bin .Mod (.loc 0) (.const (.int 6))) (.const (.int 3)))
    (.cons (.ret 0 (.tup (.cons (.const (.str "input")) (.cons (.idx (.loc 1) (.bin .Mod (.loc 3) (.bi .len (.cons (.loc 1) .nil)))) .nil))))
    .nil)
    .nil)
  (.cons (.ite (.cmp .Eq (.bin .Mod (.loc 0) (.const (.int 6))) (.const (.int 3)))
    (.cons (.ret 0 (.tup (.cons (.const (.str "nought")) .nil)))
    .nil)
    .nil)
  (.cons (.ret 0 (.tup (.cons (.const (.str "is")) (.cons (.call "_law_number" (.cons (.call "_law_mix" (.cons (.loc 3) (.cons (.const (.int 9)) .nil))) .nil)) (.cons (.call "_law_small" (.cons (.loc 3) (.cons (.loc 2) .nil))) .nil)))))
  .nil)))), false⟩
noncomputable def F_law_tree : Fn := ⟨4, 8,
  (.cons (.assign 4 0 (.bin .Mod (.loc 0) (.const (.int 9))))
  (.cons (.ite (.orE (.cons (.cmp .Lt (.loc 1) (.const (.int 1))) (.cons (.cmp .Lt (.loc 4) (.const (.int 2))) .nil)))
    (.cons (.ret 0 (.call "_law_leaf" (.cons (.bin .FloorDiv (.loc 0) (.const (.int 9))) (.cons (.idx (.loc 2) (.const (.int 0))) (.cons (.idx (.loc 2) (.const (.int 1))) .nil)))))
    .nil)
    .nil)
  (.cons (.assign 5 0 (.call "_law_tree" (.cons (.call "_law_mix" (.cons (.loc 0) (.cons (.const (.int 1)) .nil))) (.cons (.bin .Sub (.loc 1) (.const (.int 1))) (.cons (.loc 2) (.cons (.bin .Sub (.loc 3) (.bin .FloorDiv (.loc 4) (.const (.int 8)))) .nil))))))
  (.cons (.ite (.andE (.cons (.cmp .Eq (.loc 4) (.const (.int 8))) (.cons (.cmp .Gt (.loc 3) (.const (.int 0))) .nil)))
    (.cons (.ret 0 (.tup (.cons (.const (.str "power")) (.cons (.loc 5) (.cons (.bin .Sub (.bin .Mod (.bin .FloorDiv (.loc 0) (.const (.int 9))) (.const (.int 9))) (.const (.int 4))) .nil)))))
    .nil)
    .nil)
  (.cons (.assign 6 0 (.call "_law_tree" (.cons (.call "_law_mix" (.cons (.loc 0) (.cons (.const (.int 2)) .nil))) (.cons (.bin .Sub (.loc 1) (.const (.int 1))) (.cons (.loc 2) (.cons (.loc 3) .nil))))))
  (.cons (.ite (.cmp .Eq (.loc 4) (.const (.int 7)))
    (.cons (.assign 7 0 (.call "_law_tree" (.cons (.call "_law_mix" (.cons (.loc 0) (.cons (.const (.int 3)) .nil))) (.cons (.bin .Sub (.loc 1) (.const (.int 2))) (.cons (.loc 2) (.cons (.loc 3) .nil))))))
    (.cons (.ret 0 (.tup (.cons (.const (.str "less")) (.cons (.loc 5) (.cons (.loc 6) (.cons (.loc 7) (.cons (.call "_law_tree" (.cons (.call "_law_mix" (.cons (.loc 0) (.cons (.const (.int 4)) .nil))) (.cons (.bin .Sub (.loc 1) (.const (.int 2))) (.cons (.loc 2) (.cons (.loc 3) .nil))))) .nil)))))))
    .nil))
    .nil)
  (.cons (.ret 0 (.tup (.cons (.idx (.lst (.cons (.const (.str "plus")) (.cons (.const (.str "minus")) (.cons (.const (.str "times")) (.cons (.const (.str "over")) .nil))))) (.bin .Mod (.bin .FloorDiv (.loc 0) (.const (.int 9))) (.const (.int 4)))) (.cons (.loc 5) (.cons (.loc 6) .nil)))))
  .nil))))))), false⟩
noncomputable def F_law_parts : Fn := ⟨1, 1,
  (.cons (.ite (.orE (.cons (.cmp .Eq (.idx (.loc 0) (.const (.int 0))) (.const (.str "is"))) (.cons (.cmp .Eq (.idx (.loc 0) (.const (.int 0))) (.const (.str "input"))) .nil)))
    (.cons (.ret 0 (.lst .nil))
    .nil)
    .nil)
  (.cons (.ite (.cmp .Eq (.idx (.loc 0) (.const (.int 0))) (.const (.str "power")))
    (.cons (.ret 0 (.lst (.cons (.idx (.loc 0) (.const (.int 1))) .nil)))
    .nil)
    .nil)
  (.cons (.ret 0 (.bi .list (.cons (.sliceF (.loc 0) (.const (.int 1))) .nil)))
  .nil))), false⟩
noncomputable def F_law_noughts : Fn := ⟨1, 2,
  (.cons (.ite (.cmp .Eq (.idx (.loc 0) (.const (.int 0))) (.const (.str "nought")))
    (.cons (.ret 0 (.const (.int 1)))
    .nil)
    .nil)
  (.cons (.ret 0 (.bi .sum (.cons (.comp (.call "_law_noughts" (.cons (.loc 1) .nil)) (.one 1) (.call "_law_parts" (.cons (.loc 0) .nil)) (.const (.bool true))) .nil)))
  .nil)), false⟩
noncomputable def F_law_times : Fn := ⟨3, 6,
  (.cons (.assign 3 1 (.bi .dict (.cons (.loc 0) .nil)))
  (.cons (.forS (.many [4, 5]) (.loc 1)
    (.cons (.setitem (.loc 3) (.loc 4) 0 (.bin .Add (.meth (.loc 3) .get (.cons (.loc 4) (.cons (.const (.int 0)) .nil))) (.bin .Mult (.loc 5) (.loc 2))))
    .nil) [4, 5])
  (.cons (.ret 0 (.call "_law_made" (.cons (.loc 3) .nil)))
  .nil))), false⟩
noncomputable def F_law_walk : Fn := ⟨3, 7,
  (.cons (.ite (.cmp .Eq (.idx (.loc 0) (.const (.int 0))) (.const (.str "is")))
    (.cons (.ret 0 (.tup (.cons (.idx (.loc 0) (.const (.int 2))) (.cons (.lst .nil) .nil))))
    .nil)
    .nil)
  (.cons (.ite (.cmp .Eq (.idx (.loc 0) (.const (.int 0))) (.const (.str "nought")))
    (.cons (.ret 0 (.tup (.cons (.idx (.loc 2) (.const (.int 0))) (.cons (.lst .nil) .nil))))
    .nil)
    .nil)
  (.cons (.ite (.cmp .Eq (.idx (.loc 0) (.const (.int 0))) (.const (.str "input")))
    (.cons (.ret 0 (.tup (.cons (.idx (.loc 1) (.idx (.loc 0) (.const (.int 1)))) (.cons (.lst .nil) .nil))))
    .nil)
    .nil)
  (.cons (.assign 3 1 (.lst .nil))
  (.cons (.assign 4 0 (.lst .nil))
  (.cons (.forS (.one 5) (.call "_law_parts" (.cons (.loc 0) .nil))
    (.cons (.assign 6 0 (.call "_law_walk" (.cons (.loc 5) (.cons (.loc 1) (.cons (.loc 2) .nil)))))
    (.cons (.assign 2 0 (.sliceF (.loc 2) (.call "_law_noughts" (.cons (.loc 5) .nil))))
    (.cons (.expr (.meth (.loc 3) .append (.cons (.idx (.loc 6) (.const (.int 0))) .nil)))
    (.cons (.assign 4 0 (.bin .Add (.loc 4) (.idx (.loc 6) (.const (.int 1)))))
    .nil)))) [5, 6])
  (.cons (.ite (.cmp .Eq (.idx (.loc 0) (.const (.int 0))) (.const (.str "power")))
    (.cons (.ret 0 (.tup (.cons (.call "_law_times" (.cons (.tup .nil) (.cons (.idx (.loc 3) (.const (.int 0))) (.cons (.idx (.loc 0) (.const (.int 2))) .nil)))) (.cons (.loc 4) .nil))))
    .nil)
    .nil)
  (.cons (.ite (.cmp .Eq (.idx (.loc 0) (.const (.int 0))) (.const (.str "times")))
    (.cons (.ret 0 (.tup (.cons (.call "_law_times" (.cons (.idx (.loc 3) (.const (.int 0))) (.cons (.idx (.loc 3) (.const (.int 1))) (.cons (.const (.int 1)) .nil)))) (.cons (.loc 4) .nil))))
    .nil)
    .nil)
  (.cons (.ite (.cmp .Eq (.idx (.loc 0) (.const (.int 0))) (.const (.str "over")))
    (.cons (.ret 0 (.tup (.cons (.call "_law_times" (.cons (.idx (.loc 3) (.const (.int 0))) (.cons (.idx (.loc 3) (.const (.int 1))) (.cons (.neg (.const (.int 1))) .nil)))) (.cons (.loc 4) .nil))))
    .nil)
    .nil)
  (.cons (.assign 4 0 (.bin .Add (.loc 4) (.lst (.cons (.call "_law_times" (.cons (.idx (.loc 3) (.const (.int 0))) (.cons (.idx (.loc 3) (.const (.int 1))) (.cons (.neg (.const (.int 1))) .nil)))) .nil))))
  (.cons (.ite (.cmp .Eq (.idx (.loc 0) (.const (.int 0))) (.const (.str "less")))
    (.cons (.assign 4 0 (.bin .Add (.loc 4) (.lst (.cons (.call "_law_times" (.cons (.idx (.loc 3) (.const (.int 2))) (.cons (.idx (.loc 3) (.const (.int 3))) (.cons (.neg (.const (.int 1))) .nil)))) .nil))))
    (.cons (.ret 0 (.tup (.cons (.idx (.loc 3) (.const (.int 2))) (.cons (.loc 4) .nil))))
    .nil))
    .nil)
  (.cons (.ret 0 (.tup (.cons (.idx (.loc 3) (.const (.int 0))) (.cons (.loc 4) .nil))))
  .nil)))))))))))), false⟩
noncomputable def F_law_inputs : Fn := ⟨1, 3,
  (.cons (.ite (.cmp .Eq (.idx (.loc 0) (.const (.int 0))) (.const (.str "input")))
    (.cons (.ret 0 (.lst (.cons (.idx (.loc 0) (.const (.int 1))) .nil)))
    .nil)
    .nil)
  (.cons (.assign 1 0 (.lst .nil))
  (.cons (.forS (.one 2) (.call "_law_parts" (.cons (.loc 0) .nil))
    (.cons (.assign 1 0 (.bin .Add (.loc 1) (.call "_law_inputs" (.cons (.loc 2) .nil))))
    .nil) [2])
  (.cons (.ret 0 (.bi .sortedSet (.cons (.loc 1) .nil)))
  .nil)))), false⟩
noncomputable def F_law : Fn := ⟨1, 15,
  (.cons (.assign 1 0 (.call "_law_words" (.cons (.call "_law_cell_at" (.cons (.loc 0) (.cons (.const (.int 0)) .nil))) (.cons (.const (.int 4)) .nil))))
  (.cons (.assign 2 0 (.call "_law_words" (.cons (.call "_law_cell_at" (.cons (.loc 0) (.cons (.bi .int (.cons (.cmp .Gt (.bin .Mod (.call "_law_cell_at" (.cons (.loc 0) (.cons (.const (.int 1)) .nil))) (.const (.int 3))) (.const (.int 0))) .nil)) .nil))) (.cons (.const (.int 3)) .nil))))
  (.cons (.assign 3 0 (.call "_law_tree" (.cons (.call "_law_cell_at" (.cons (.loc 0) (.cons (.const (.int 2)) .nil))) (.cons (.idx (.lst (.cons (.const (.int 1)) (.cons (.const (.int 2)) (.cons (.const (.int 3)) (.cons (.const (.int 3)) .nil))))) (.bin .Mod (.call "_law_cell_at" (.cons (.loc 0) (.cons (.const (.int 3)) .nil))) (.const (.int 4)))) (.cons (.tup (.cons (.loc 1) (.cons (.loc 2) .nil))) (.cons (.const (.int 2)) .nil))))))
  (.cons (.assign 4 0 (.bi .min2 (.cons (.bi .len (.cons (.loc 0) .nil)) (.cons (.idx (.lst (.cons (.const (.int 4)) (.cons (.const (.int 10)) .nil))) (.bin .Mod (.bin .FloorDiv (.call "_law_cell_at" (.cons (.loc 0) (.cons (.const (.int 3)) .nil))) (.const (.int 4))) (.const (.int 2)))) .nil))))
  (.cons (.forS (.one 5) (.comp (.call "_law_cell_at" (.cons (.loc 0) (.cons (.loc 13) .nil))) (.one 13) (.bi .range2 (.cons (.const (.int 4)) (.cons (.loc 4) .nil))) (.const (.bool true)))
    (.cons (.assign 3 0 (.tup (.cons (.idx (.lst (.cons (.const (.str "plus")) (.cons (.const (.str "minus")) (.cons (.const (.str "times")) .nil)))) (.bin .Mod (.loc 5) (.const (.int 3)))) (.cons (.call "_law_leaf" (.cons (.bin .FloorDiv (.loc 5) (.const (.int 3))) (.cons (.loc 1) (.cons (.loc 2) .nil)))) (.cons (.loc 3) .nil)))))
    .nil) [5])
  (.cons (.assign 6 1 .edict)
  (.cons (.forS (.one 7) (.call "_law_inputs" (.cons (.loc 3) .nil))
    (.cons (.setitem (.loc 6) (.loc 7) 0 (.tup (.cons (.tup (.cons (.bin .Add (.const (.str "=")) (.loc 7)) (.cons (.const (.int 1)) .nil))) .nil)))
    .nil) [7])
  (.cons (.assignT [8, 9] (.call "_law_walk" (.cons (.loc 3) (.cons (.loc 6) (.cons (.comp (.tup (.cons (.tup (.cons (.bin .Add (.const (.str "0")) (.bi .str (.cons (.loc 14) .nil))) (.cons (.const (.int 1)) .nil))) .nil)) (.one 14) (.bi .range (.cons (.call "_law_noughts" (.cons (.loc 3) .nil)) .nil)) (.const (.bool true))) .nil)))))
  (.cons (.assign 10 0 (.call "alike" (.cons (.loc 3) .nil)))
  (.cons (.ite (.orE (.cons (.notE (.bi (.isinst .list) (.cons (.loc 10) .nil))) (.cons (.cmp .NotEq (.loc 10) (.loc 9)) .nil)))
    (.cons (.ret 0 (.const (.bool false)))
    .nil)
    .nil)
  (.cons (.forS (.one 11) (.loc 10)
    (.cons (.ite (.notE (.call "_law_is_measure" (.cons (.loc 11) .nil)))
      (.cons (.ret 0 (.const (.bool false)))
      .nil)
      .nil)
    .nil) [11])
  (.cons (.assign 12 0 (.call "measure_of" (.cons (.loc 3) .nil)))
  (.cons (.ret 0 (.andE (.cons (.call "_law_is_measure" (.cons (.loc 12) .nil)) (.cons (.cmp .Eq (.loc 12) (.loc 8)) .nil))))
  .nil))))))))))))), false⟩
noncomputable def F_Looker__init : Fn := ⟨3, 3,
  (.cons (.setattr (.loc 0) "names" 0 (.loc 1))
  (.cons (.setattr (.loc 0) "own" 0 (.loc 2))
  (.cons (.setattr (.loc 0) "met" 0 (.const (.int 0)))
  (.cons (.setattr (.loc 0) "noted" 1 (.lst .nil))
  .nil)))), true⟩
noncomputable def F_Looker_measure : Fn := ⟨2, 5,
  (.cons (.assign 2 0 (.idx (.loc 1) (.const (.int 0))))
  (.cons (.ite (.cmp .Eq (.loc 2) (.const (.str "is")))
    (.cons (.ret 0 (.idx (.loc 1) (.const (.int 2))))
    .nil)
    .nil)
  (.cons (.ite (.cmp .Eq (.loc 2) (.const (.str "input")))
    (.cons (.ret 0 (.idx (.attr (.loc 0) "names") (.idx (.loc 1) (.const (.int 1)))))
    .nil)
    .nil)
  (.cons (.ite (.cmp .Eq (.loc 2) (.const (.str "nought")))
    (.cons (.setattr (.loc 0) "met" 0 (.bin .Add (.attr (.loc 0) "met") (.const (.int 1))))
    (.cons (.ret 0 (.idx (.attr (.loc 0) "own") (.bin .Sub (.attr (.loc 0) "met") (.const (.int 1)))))
    .nil))
    .nil)
  (.cons (.assign 3 0 (.comp (.umeth (.loc 0) "measure" (.cons (.loc 4) .nil)) (.one 4) (.call "parts_of" (.cons (.loc 1) .nil)) (.const (.bool true))))
  (.cons (.ite (.cmp .Eq (.loc 2) (.const (.str "times")))
    (.cons (.ret 0 (.call "times" (.cons (.idx (.loc 3) (.const (.int 0))) (.cons (.idx (.loc 3) (.const (.int 1))) .nil))))
    .nil)
    .nil)
  (.cons (.ite (.cmp .Eq (.loc 2) (.const (.str "over")))
    (.cons (.ret 0 (.call "over" (.cons (.idx (.loc 3) (.const (.int 0))) (.cons (.idx (.loc 3) (.const (.int 1))) .nil))))
    .nil)
    .nil)
  (.cons (.ite (.cmp .Eq (.loc 2) (.const (.str "power")))
    (.cons (.ret 0 (.call "power" (.cons (.idx (.loc 3) (.const (.int 0))) (.cons (.idx (.loc 1) (.const (.int 2))) .nil))))
    .nil)
    .nil)
  (.cons (.expr (.meth (.attr (.loc 0) "noted") .append (.cons (.call "over" (.cons (.idx (.loc 3) (.const (.int 0))) (.cons (.idx (.loc 3) (.const (.int 1))) .nil))) .nil)))
  (.cons (.ite (.cmp .Eq (.loc 2) (.const (.str "less")))
    (.cons (.expr (.meth (.attr (.loc 0) "noted") .append (.cons (.call "over" (.cons (.idx (.loc 3) (.const (.int 2))) (.cons (.idx (.loc 3) (.const (.int 3))) .nil))) .nil)))
    (.cons (.ret 0 (.idx (.loc 3) (.const (.int 2))))
    .nil))
    .nil)
  (.cons (.ret 0 (.idx (.loc 3) (.const (.int 0))))
  .nil))))))))))), true⟩
noncomputable def tbl : List (Str × Fn) := [("measure_of_dict", F_measure_of_dict), ("put_to", F_put_to), ("times", F_times), ("over", F_over), ("power", F_power), ("parts_of", F_parts_of), ("all_within", F_all_within), ("inputs", F_inputs), ("noughts", F_noughts), ("own_looker", F_own_looker), ("measure_of", F_measure_of), ("alike", F_alike), ("_law_cell_at", F_law_cell_at), ("_law_mix", F_law_mix), ("_law_words", F_law_words), ("_law_made", F_law_made), ("_law_whole", F_law_whole), ("_law_is_measure", F_law_is_measure), ("_law_small", F_law_small), ("_law_shared", F_law_shared), ("_law_lowest", F_law_lowest), ("_law_number", F_law_number), ("_law_leaf", F_law_leaf), ("_law_tree", F_law_tree), ("_law_parts", F_law_parts), ("_law_noughts", F_law_noughts), ("_law_times", F_law_times), ("_law_walk", F_law_walk), ("_law_inputs", F_law_inputs), ("law", F_law), ("Looker.__init__", F_Looker__init), ("Looker.measure", F_Looker_measure)]

noncomputable def partsL : List (Str × Int) := [("is", 0), ("nought", 0), ("input", 0), ("plus", 2), ("minus", 2), ("times", 2), ("over", 2), ("power", 1), ("less", 4)]
noncomputable def partsV : PV := .dct (partsL.map fun kv => (kv.1, .int kv.2))
noncomputable def atrs : List Str := ["names", "own", "met", "noted"]
noncomputable def G : Glob := ⟨fun x => if x = "PARTS" then some partsV else none, fun f => tbl.lookup f, fun x => atrs.contains x⟩
/-- reading a local, also where the value's form is not in sight -/
noncomputable def isU : PV → Bool
  | .undef => true
  | _ => false
noncomputable def locV (o : Option PV) (σ : AH) : Res PV := match o with
  | some v => if isU v = true then .bad else .ok v σ
  | none => .bad
theorem e_locV {c : Cx} {m : Nat} {ρ : List PV} {σ : AH} (i : Nat) : ev c (.loc i) m ρ σ = locV ρ[i]? σ := by
  rw [e_loc]
  cases ρ[i]? with
  | none => rfl
  | some v => cases v <;> rfl
theorem locV_some (v : PV) (σ : AH) : locV (some v) σ = if isU v = true then .bad else .ok v σ := rfl
theorem isU_none : isU .none = false := rfl
theorem isU_bool (x : Bool) : isU (.bool x) = false := rfl
theorem isU_int (x : Int) : isU (.int x) = false := rfl
theorem isU_str (x : Str) : isU (.str x) = false := rfl
theorem isU_tup (x : List PV) : isU (.tup x) = false := rfl
theorem isU_lst (x : List PV) : isU (.lst x) = false := rfl
theorem isU_dct (x : List (Str × PV)) : isU (.dct x) = false := rfl
theorem isU_ref (x : Nat) : isU (.ref x) = false := rfl
theorem isU_rng (x y : Int) : isU (.rng x y) = false := rfl
theorem isU_mv (x : DI) : isU (mv x) = false := rfl
theorem fn_cell_at : G.fn "_law_cell_at" = some F_law_cell_at := by rfl
theorem fn_law : G.fn "law" = some F_law := by rfl
theorem fn_mix : G.fn "_law_mix" = some F_law_mix := by rfl
noncomputable def cellAt (ns : List Int) (k : Nat) : Int := if k < ns.length then (ns.getD k 0).fmod 1000000000000000003 else 0
theorem frz_int (n : Nat) (σ : AH) (i : Int) : frz n σ 3 (.int i) = some (.int i) := rfl
theorem frz_bool (n : Nat) (σ : AH) (i : Bool) : frz n σ 3 (.bool i) = some (.bool i) := rfl
theorem cell_at {ns : List Int} (h : ns.length ≤ 63) (k : Nat) (hk : k ≤ 1000) (d : Nat) (σ : AH) : callD G (d + 1) "_law_cell_at" [.lst (ns.map .int), .int k] σ = .ok (.int (cellAt ns k)) σ := by
  have h1 : (List.map PV.int ns).length ≤ 1000000 := by simp; exact om5 h
  simp only [callD, runFn, List.length_cons, List.length_nil, Nat.reduceAdd, if_true, Nat.sub_self, List.replicate_zero, List.append_nil, e_loc, e_cmp, e_bi, e_nil, e_cons, x_ite, x_cons, Bool.false_eq_true, if_false, bind_ok, k_cmp1, k_cmp2, k_bi, k_cons1, k_cons2, k_if, List.getElem?_cons_zero, List.getElem?_cons_succ, fin_v, okB_some, truth_bool, lt_ii, Flw.out, fn_cell_at, F_law_cell_at, len_lst _ _ h1]
  unfold cellAt
  by_cases hc : k < ns.length
  · have hc' : decide ((k : Int) < ((List.map PV.int ns).length : Int)) = true := by simp; assumption
    have hg : (List.map PV.int ns)[k]? = some (.int (ns.getD k 0)) := by simp [hc, List.getD]
    simp only [if_true, e_const, e_loc, e_bin, e_idx, x_ret, x_cons, List.take_length, bind_ok, k_bin1, k_bin2, k_idx1, k_idx2, k_ret, k_if_t, k_seq, k_seq_r, List.getElem?_cons_zero, List.getElem?_cons_succ, fin_v, constP_int, hc', idx_lst σ _ k _ (by exact om4 hk) hg, mod_ii _ _ _ (show (1000000000000000003 : Int) ≠ 0 by decide), frz_int, hc]
  · have hc' : decide ((k : Int) < ((List.map PV.int ns).length : Int)) = false := by simp; exact om3 hc
    simp only [if_true, e_const, x_ret, x_nil, x_cons, if_false, List.take_length, bind_ok, k_ret, k_if_f, k_seq, k_seq_n, k_seq_r, constP_int, hc', frz_int, hc]
theorem cellAt_ge (ns : List Int) (k : Nat) : 0 ≤ cellAt ns k := by
  unfold cellAt; split
  · exact Int.fmod_nonneg_of_pos _ (by decide)
  · decide
theorem cellAt_lt (ns : List Int) (k : Nat) : cellAt ns k < 1000000000000000003 := by
  unfold cellAt; split
  · exact Int.fmod_lt_of_pos _ (by decide)
  · decide

noncomputable def mixN (cell k : Int) : Int := (cell * 48271 + k * 69621 + 11).fmod 2147483647
noncomputable def mix (cell k : Int) : Int := (mixN cell k * mixN cell k + 7 * mixN cell k + k).fmod 2147483629
theorem mixN_bd (cell k : Int) : 0 ≤ mixN cell k ∧ mixN cell k < 2147483647 := ⟨Int.fmod_nonneg_of_pos _ (by decide), Int.fmod_lt_of_pos _ (by decide)⟩
theorem mix_bd (cell k : Int) : 0 ≤ mix cell k ∧ mix cell k < 2147483629 := ⟨Int.fmod_nonneg_of_pos _ (by decide), Int.fmod_lt_of_pos _ (by decide)⟩
theorem run_mix (cell k : Int) (d : Nat) (σ : AH) : callD G (d + 1) "_law_mix" [.int cell, .int k] σ = .ok (.int (mix cell k)) σ := by
  have hb := mixN_bd cell k
  have h1 : IntMulOk cell 48271 := mulOk_r (by decide) (by decide)
  have h2 : IntMulOk k 69621 := mulOk_r (by decide) (by decide)
  have h3 : IntMulOk (mixN cell k) (mixN cell k) := mulOk_l (by omega) (by omega)
  have h4 : IntMulOk 7 (mixN cell k) := mulOk_l (by decide) (by decide)
  unfold mixN at h3 h4
  simp only [callD, runFn, List.length_cons, List.length_nil, Nat.reduceAdd, Nat.reduceSub, if_true, List.replicate_succ, List.replicate, List.nil_append, List.cons_append, e_const, e_loc, e_bin, x_assign, x_ret, x_cons, Bool.false_eq_true, if_false, List.take_length, bind_ok, k_bin1, k_bin2, k_assign, k_ret, k_seq, k_seq_n, k_seq_r, List.getElem?_cons_zero, List.getElem?_cons_succ, List.set_cons_zero, List.set_cons_succ, fin_v, constP_int, add_ii, Flw.out, fn_mix, F_law_mix, mul_ii _ _ _ h1, mul_ii _ _ _ h2, mul_ii _ _ _ h3, mul_ii _ _ _ h4, mod_ii _ _ _ (show (2147483647 : Int) ≠ 0 by decide), mod_ii _ _ _ (show (2147483629 : Int) ≠ 0 by decide), frz_int, List.take_length]
  simp [mix, mixN]
end Mine

set_option autoImplicit false
set_option maxRecDepth 100000
set_option linter.unusedSimpArgs false
set_option linter.unusedVariables false
set_option exponentiation.threshold 2000
namespace Mine
open PySem
theorem fn_made : G.fn "_law_made" = some F_law_made := by rfl
theorem fn_mod : G.fn "measure_of_dict" = some F_measure_of_dict := by rfl
theorem fn_put : G.fn "put_to" = some F_put_to := by rfl
theorem set_last {σ : AH} {o : AObj} (o' : AObj) : (σ ++ [o]).set σ.length o' = σ ++ [o'] := by simp
theorem get_last {σ : AH} {o : AObj} : (σ ++ [o])[σ.length]? = some o := by simp
theorem take_last {σ : AH} {o : AObj} : (σ ++ [o]).take σ.length = σ := by simp

theorem deref_d {σ : AH} {i : Nat} {b : Bool} {l : List (Str × PV)} (h : σ[i]? = some (.dict b l)) : deref σ (.ref i) = .dct l := congrArg derefO h
theorem deref_l {σ : AH} {i : Nat} {b : Bool} {l : List PV} (h : σ[i]? = some (.list b l)) : deref σ (.ref i) = .lst l := congrArg derefO h
theorem get_dv {σ : AH} {i : Nat} {b : Bool} {D : DI} (h : σ[i]? = some (.dict b (dv D))) {k : Str} (hk : k ∈ D.map (·.1)) : getAt σ (.ref i) (.str k) = some (.v (.int (val D k))) := by
  obtain ⟨v, hv⟩ := dget_some hk
  unfold getAt
  rw [deref_d h]
  show (dget (dv D) k).map Out.v = _
  rw [dv_get, hv]
  unfold val
  rw [hv]; rfl
theorem sorted_dv {σ : AH} {i : Nat} {b : Bool} {D : DI} (h : σ[i]? = some (.dict b (dv D))) (hl : D.length < sortMost) : biP σ .sorted [.ref i] = some (.f (.list ((sortS (D.map (·.1))).map .str))) := by
  show (sortD (deref σ (.ref i))).bind _ = _
  rw [deref_d h]
  show (if ((dv D).map (·.1)).length < sortMost then some (Out.f (.list ((sortS ((dv D).map (·.1))).map .str))) else none) = _
  rw [dv_keys, List.length_map, if_pos hl]
theorem tuple_lst {σ : AH} {l : List PV} (h : l.length ≤ 1000000) : biP σ .tuple [.lst l] = some (.v (.tup l)) := if_pos (decide_eq_true h)
theorem lt_neg_zero (k : Int) : (!(k == 0)) = decide (k ≠ 0) := by
  by_cases h : k = 0 <;> simp [h]

theorem comp_made (c : Cx) {σ : AH} {i : Nat} {b : Bool} {D : DI} (h : σ[i]? = some (.dict b (dv D))) : ∀ ks : List Str, (∀ k ∈ ks, k ∈ D.map (·.1)) →
    compL (ev c (.cmp .NotEq (.idx (.loc 0) (.loc 1)) (.const (.int 0))) 0) (ev c (.tup (.cons (.loc 1) (.cons (.idx (.loc 0) (.loc 1)) .nil))) 0) (.one 1) [.ref i, .undef] (ks.map .str) σ = .ok ((ks.filterMap fun k => if val D k ≠ 0 then some (k, val D k) else none).map fun kv => .tup [.str kv.1, .int kv.2]) σ := by
  intro ks
  induction ks with
  | nil => intro _; simp [compL]
  | cons k ks ih =>
    intro hk
    have h1 := get_dv h (hk k (List.mem_cons_self ..))
    have h2 := ih fun x hx => hk x (List.mem_cons_of_mem _ hx)
    rw [List.map_cons, compL]
    simp only [e_const, e_loc, e_cmp, e_tup, e_idx, e_nil, e_cons, bind_ok, k_cmp1, k_cmp2, k_tup, k_idx1, k_idx2, k_cons1, k_cons2, List.getElem?_cons_zero, List.getElem?_cons_succ, List.set_cons_zero, List.set_cons_succ, fin_v, okB_some, truth_bool, constP_int, ne_ii, bindT, h1]
    by_cases h0 : val D k = 0
    · simp only [h0, Bool.not_true, beq_self_eq_true, Bool.not_true]
      rw [h2]
      simp [h0]
    · have h3 : (!(val D k == 0)) = true := by simp [h0]
      simp only [h3, h2, bind_ok]
      simp [h0]

theorem run_made_of {F : Str} (hF : G.fn F = some F_law_made) {σ : AH} {i : Nat} {b : Bool} {D : DI} (h : σ[i]? = some (.dict b (dv D))) (hl : D.length < sortMost) (d : Nat) :
    callD G (d + 1) F [.ref i] σ = .ok (mv (madeL D)) σ := by
  have h1 := sorted_dv h hl
  have h2 : (madeL D).length ≤ 1000000 := by
    unfold madeL
    refine Nat.le_trans (List.length_filterMap_le ..) ?_
    rw [(sortS_perm _).length_eq, List.length_map]
    have : sortMost ≤ 1000 := by decide
    exact om8 hl this
  have h3 := comp_made ⟨G.const, callD G d, G.atr⟩ h (sortS (D.map (·.1))) (fun k hk => (sortS_perm _).mem_iff.mp hk)
  simp only [callD, runFn, List.length_cons, List.length_nil, Nat.reduceAdd, Nat.reduceSub, if_true, List.replicate_succ, List.replicate, List.nil_append, List.cons_append, e_loc, e_comp, e_bi, e_nil, e_cons, x_ret, x_cons, Bool.false_eq_true, if_false, items_lst, lkV_lst, lockV_lst, val_list, Nat.pred, bind_ok, k_comp1, k_compI, k_bi, k_cons1, k_cons2, List.getElem?_cons_zero, List.set_cons_zero, List.set_cons_succ, fin_f0, kill, List.foldl_cons, List.foldl_nil, tgtSlots, Flw.out, hF, F_law_made, h1]
  rw [h3]
  simp only [lockV_lst, unlk_ok, box_0, val_list, bind_ok, k_comp2, List.length_map, small]
  have h4 : decide ((List.filterMap (fun k => if val D k ≠ 0 then some (k, val D k) else none) (sortS (List.map (fun x => x.fst) D))).length ≤ 1000000) = true := decide_eq_true h2
  simp only [h4, if_true, if_true, e_nil, bind_ok, k_bi, k_cons1, k_cons2]
  rw [tuple_lst (by rw [List.length_map]; exact h2)]
  simp only [if_true, List.take_length, bind_ok, k_ret, k_seq, k_seq_r, fin_v, List.take_length, if_true]
  have h5 := mv_pure (madeL D)
  unfold mv madeL at h5 ⊢
  rw [frz_pure h5]
theorem run_made {σ : AH} {i : Nat} {b : Bool} {D : DI} (h : σ[i]? = some (.dict b (dv D))) (hl : D.length < sortMost) (d : Nat) : callD G (d + 1) "_law_made" [.ref i] σ = .ok (mv (madeL D)) σ := run_made_of fn_made h hl d
theorem run_mod {σ : AH} {i : Nat} {b : Bool} {D : DI} (h : σ[i]? = some (.dict b (dv D))) (hl : D.length < sortMost) (d : Nat) : callD G (d + 1) "measure_of_dict" [.ref i] σ = .ok (mv (madeL D)) σ := run_made_of fn_mod h hl d

theorem get_dvD {σ : AH} {i : Nat} {b : Bool} {D : DI} (h : σ[i]? = some (.dict b (dv D))) (k : Str) : bmP σ .get (.ref i) [.str k, .int 0] = some (.int (val D k), σ) := by
  show (dctOf (deref σ (.ref i))).bind _ = _
  rw [deref_d h]
  exact congrArg (fun x => some (x, σ)) (dv_getD D k)
theorem isTy_dv {σ : AH} {i : Nat} {b : Bool} {D : List (Str × PV)} (h : σ[i]? = some (.dict b D)) : isTy σ .dict (.ref i) = some true := by
  show isTyD .dict (deref σ (.ref i)) = _
  rw [deref_d h]; rfl
theorem openD_of {σ : AH} {i : Nat} {D : List (Str × PV)} (h : σ[i]? = some (.dict false D)) : openD σ i = some D := by unfold openD; rw [h]
theorem set_dv {σ : AH} {i : Nat} {D : DI} (h : σ[i]? = some (.dict false (dv D))) (hl : D.length ≤ 1000000) (k : Str) (v : Int) : setAt σ (.ref i) (.str k) (.int v) = some (σ.set i (.dict false (dv (dput D k v)))) := by
  show (openD σ i).bind _ = _
  rw [openD_of h, ← dv_put]
  exact if_pos (decide_eq_true (dv_len D ▸ hl))

theorem run_put {ms : DI} {n : Int} (hm : ∀ kv ∈ ms, IntMulOk kv.2 n) (d : Nat) : ∀ {σ : AH} {i : Nat} {D : DI}, σ[i]? = some (.dict false (dv D)) → D.length + ms.length ≤ 1000000 →
    callD G (d + 1) "put_to" [.ref i, mv ms, .int n] σ = .ok .none (σ.set i (.dict false (dv (putF D ms n)))) := by
  intro σ i D h hl
  have key : ∀ (l : DI) (σ : AH) (D : DI), (∀ kv ∈ l, IntMulOk kv.2 n) → σ[i]? = some (.dict false (dv D)) → D.length + l.length ≤ 1000000 →
    forL (execs ⟨G.const, callD G d, G.atr⟩ (.cons (.setitem (.loc 0) (.loc 3) 0 (.bin .Add (.meth (.loc 0) .get (.cons (.loc 3) (.cons (.const (.int 0)) .nil))) (.bin .Mult (.loc 4) (.loc 2)))) .nil)) (.many [3, 4]) [3, 4]
      (l.map fun kv => .tup [.str kv.1, .int kv.2]) [.ref i, mv ms, .int n, .undef, .undef] σ = .ok (.next, [.ref i, mv ms, .int n, .undef, .undef]) (σ.set i (.dict false (dv (putF D l n)))) := by
    intro l
    induction l with
    | nil =>
      intro σ D _ h _
      have : i < σ.length := by rcases Nat.lt_or_ge i σ.length with q | q; exact q; simp [q] at h
      have e : σ.set i (.dict false (dv D)) = σ := by
        apply List.ext_getElem?
        intro j
        rw [List.getElem?_set]
        split
        · rename_i q; subst q; simp only [h]
        · rfl
      simp only [List.map_nil, forL, List.set_cons_zero, List.set_cons_succ, kill, List.foldl_cons, List.foldl_nil, putF]
      rw [e]
    | cons kv l ih =>
      intro σ D hm h hl
      rw [List.length_cons] at hl
      have e1 := get_dvD h kv.1
      have e2 := isTy_dv h
      have e3 := mul_ii σ kv.2 n (hm kv (List.mem_cons_self ..))
      have e4 := set_dv h (by exact om7 hl) kv.1 (val D kv.1 + kv.2 * n)
      rw [List.map_cons, forL]
      simp only [List.length_cons, List.length_nil, Nat.reduceAdd, if_true, e_const, e_loc, e_bin, e_meth, e_nil, e_cons, x_setitem, x_nil, x_cons, bind_ok, k_bin1, k_bin2, k_meth1, k_methI, k_meth2, k_meth3, k_cons1, k_cons2, k_set1, k_set2, k_set3, k_set4, k_seq, k_seq_n, List.getElem?_cons_zero, List.getElem?_cons_succ, List.set_cons_zero, List.set_cons_succ, fin_v, constP_int, add_ii, kill, List.foldl_cons, List.foldl_nil, setAll, bindT, BM.ty, e1, e2, e3, e4, mv]
      have hi : i < σ.length := by rcases Nat.lt_or_ge i σ.length with q | q; exact q; simp [q] at h
      have h' : (σ.set i (.dict false (dv (dput D kv.1 (val D kv.1 + kv.2 * n)))))[i]? = some (.dict false (dv (dput D kv.1 (val D kv.1 + kv.2 * n)))) := by simp [hi]
      have := ih _ (dput D kv.1 (val D kv.1 + kv.2 * n)) (fun q hq => hm q (List.mem_cons_of_mem _ hq)) h' (by
        have : (dput D kv.1 (val D kv.1 + kv.2 * n)).length ≤ D.length + 1 := by unfold dput; split <;> simp
        exact om6 hl this)
      have fk : ∀ a b : PV, forL (execs ⟨G.const, callD G d, G.atr⟩ (.cons (.setitem (.loc 0) (.loc 3) 0 (.bin .Add (.meth (.loc 0) .get (.cons (.loc 3) (.cons (.const (.int 0)) .nil))) (.bin .Mult (.loc 4) (.loc 2)))) .nil)) (.many [3, 4]) [3, 4]
        (l.map fun kv => .tup [.str kv.1, .int kv.2]) [.ref i, mv ms, .int n, a, b] = forL (execs ⟨G.const, callD G d, G.atr⟩ (.cons (.setitem (.loc 0) (.loc 3) 0 (.bin .Add (.meth (.loc 0) .get (.cons (.loc 3) (.cons (.const (.int 0)) .nil))) (.bin .Mult (.loc 4) (.loc 2)))) .nil)) (.many [3, 4]) [3, 4]
        (l.map fun kv => .tup [.str kv.1, .int kv.2]) [.ref i, mv ms, .int n, .undef, .undef] := by
        intro a b; funext σ; cases l <;> simp only [List.map_nil, List.map_cons, forL, List.length_cons, List.length_nil, Nat.reduceAdd, if_true, e_loc, e_bin, e_meth, x_setitem, x_cons, bind_ok, k_meth1, List.getElem?_cons_zero, List.set_cons_zero, List.set_cons_succ, kill, List.foldl_cons, List.foldl_nil, setAll, bindT]
      unfold mv at fk this
      rw [fk, this]
      simp only [List.set_set]
      rfl
  have k1 := key ms σ D hm h hl
  unfold mv at k1
  simp only [callD, runFn, List.length_cons, List.length_nil, Nat.reduceAdd, Nat.reduceSub, if_true, List.replicate_succ, List.replicate, List.nil_append, List.cons_append, e_loc, x_for, x_nil, x_cons, items_tup, lkV_tup, lockV_tup, unlk_ok, bind_ok, k_for, k_forI, k_seq, k_seq_n, List.getElem?_cons_zero, List.getElem?_cons_succ, Flw.out, fn_put, F_put_to, mv, k1]
end Mine

set_option autoImplicit false
set_option maxRecDepth 100000
set_option linter.unusedSimpArgs false
set_option linter.unusedVariables false
set_option exponentiation.threshold 2000
namespace Mine
open PySem
theorem fn_ism : G.fn "_law_is_measure" = some F_law_is_measure := by rfl
theorem fn_whole : G.fn "_law_whole" = some F_law_whole := by rfl
theorem dict_mv {σ : AH} {ms : DI} (hn : (ms.map (·.1)).Nodup) (hl : ms.length ≤ 1000000) : biP σ .dict [mv ms] = some (.f (.dict (dv ms))) := by
  show (pairsOf (ms.map fun kv => .tup [.str kv.1, .int kv.2])).bind _ = _
  rw [pairsOf_mv]
  exact (if_pos (decide_eq_true (dv_len ms ▸ hl))).trans (by rw [dictOf_nodup hn])

theorem set_snoc {σ : AH} {o o' : AObj} : (σ ++ [o]).set σ.length o' = σ ++ [o'] := by simp
theorem get_snoc {σ : AH} {o : AObj} : (σ ++ [o])[σ.length]? = some o := by simp

/-- a loop that puts a measure to a dict -/
theorem loop_put (c : Cx) {i : Nat} {ρ0 : List PV} {body : PSs} {t : Tgt} {ks : List Nat} {n : Int} (l : DI)
    (hb : ∀ (kv : Str × Int) (σ : AH) (D : DI), kv ∈ l → σ[i]? = some (.dict false (dv D)) → D.length ≤ 1000000 → ∃ ρ1 ρ2, bindT t (.tup [.str kv.1, .int kv.2]) ρ0 = some ρ1 ∧ execs c body ρ1 σ = .ok (.next, ρ2) (σ.set i (.dict false (dv (dput D kv.1 (val D kv.1 + kv.2 * n))))) ∧ kill ks ρ2 = ρ0) :
    ∀ {ρ : List PV} {σ : AH} {D : DI}, σ[i]? = some (.dict false (dv D)) → D.length + l.length ≤ 1000000 → kill ks ρ = ρ0 →
    forL (execs c body) t ks (l.map fun kv => .tup [.str kv.1, .int kv.2]) ρ σ = .ok (.next, ρ0) (σ.set i (.dict false (dv (putF D l n)))) := by
  induction l with
  | nil =>
    intro ρ σ D h _ hk
    have hi : i < σ.length := by rcases Nat.lt_or_ge i σ.length with q | q; exact q; simp [q] at h
    have e : σ.set i (.dict false (dv D)) = σ := by
      apply List.ext_getElem?
      intro j
      rw [List.getElem?_set]
      split
      · rename_i q; subst q; simp only [h]
      · rfl
    rw [List.map_nil, forL, hk]
    simp only [putF, List.foldl_nil, e]
  | cons kv l ih =>
    intro ρ σ D h hl hk
    rw [List.length_cons] at hl
    obtain ⟨ρ1, ρ2, h1, h2, h3⟩ := hb kv σ D (List.mem_cons_self ..) h (by exact om7 hl)
    have hi : i < σ.length := by rcases Nat.lt_or_ge i σ.length with q | q; exact q; simp [q] at h
    rw [List.map_cons, forL, hk, h1]
    simp only [h2, bind_ok]
    rw [ih (fun q σ D hq => hb q σ D (List.mem_cons_of_mem _ hq)) (D := dput D kv.1 (val D kv.1 + kv.2 * n)) (by simp [hi]) (by
        have : (dput D kv.1 (val D kv.1 + kv.2 * n)).length ≤ D.length + 1 := by unfold dput; split <;> simp
        exact om6 hl this) h3]
    simp only [List.set_set]
    rfl

theorem run_whole (v : Int) (d : Nat) (σ : AH) : callD G (d + 1) "_law_whole" [.int v] σ = .ok (.bool true) σ := by
  have g1 : biP σ (.isinst .int) [.int v] = some (.v (.bool true)) := rfl
  have g2 : biP σ (.isinst .bool) [.int v] = some (.v (.bool false)) := rfl
  rw [callD_s fn_whole]
  simp only [runFn, List.length_cons, List.length_nil, Nat.reduceAdd, if_true, Nat.sub_self, List.replicate_zero, List.append_nil, e_loc, e_and, e_not, e_bi, e_nil, e_cons, e_and1, e_and2, x_ret, x_cons, Bool.false_eq_true, if_false, Option.map_some, Bool.not_false, List.take_length, bind_ok, k_not, k_bi, k_cons1, k_cons2, k_and, k_and_t, k_ret, k_seq, k_seq_r, List.getElem?_cons_zero, fin_v, okB_some, truth_bool, Flw.out, F_law_whole, g1, g2, frz_bool]

theorem strLt_empty {k : Str} (h : k ≠ (⟨#[]⟩ : Str)) : strLt ⟨#[]⟩ k = true := by
  refine strLt_of_le_ne ?_ (Ne.symm h)
  simp [strLt]

theorem run_ism {ms : DI} (hm : Meas ms) (d : Nat) (σ : AH) : callD G (d + 2) "_law_is_measure" [mv ms] σ = .ok (.bool true) σ := by
  have key : ∀ (l : DI) (a : Str) (ρ : List PV) (body : List PV → AH → Res FE), l.Pairwise (fun a b => strLt a.1 b.1 = true) → (∀ kv ∈ l, strLt a kv.1 = true ∧ kv.2 ≠ 0) → kill [2] ρ = [mv ms, .str a, .undef] →
      (∀ (kv : Str × Int) (a : Str), strLt a kv.1 = true → kv.2 ≠ 0 → body [mv ms, .str a, .tup [.str kv.1, .int kv.2]] σ = .ok (.next, [mv ms, .str kv.1, .tup [.str kv.1, .int kv.2]]) σ) →
      ∃ ρ', forL body (.one 2) [2] (l.map fun kv => .tup [.str kv.1, .int kv.2]) ρ σ = .ok (.next, ρ') σ := by
    intro l
    induction l with
    | nil => intro a ρ body _ _ hk hb; exact ⟨_, by rw [List.map_nil, forL]⟩
    | cons kv l ih =>
      intro a ρ body hp hl hk hb
      rw [List.pairwise_cons] at hp
      have h1 := hl kv (List.mem_cons_self ..)
      obtain ⟨ρ', h2⟩ := ih kv.1 [mv ms, .str kv.1, .tup [.str kv.1, .int kv.2]] body hp.2 (fun q hq => ⟨hp.1 q hq, (hl q (List.mem_cons_of_mem _ hq)).2⟩) rfl hb
      refine ⟨ρ', ?_⟩
      rw [List.map_cons, forL, hk]
      simp only [List.set_cons_zero, List.set_cons_succ, kill, List.foldl_cons, List.foldl_nil, bindT]
      rw [hb kv a h1.1 h1.2]
      exact h2
  rw [callD_s fn_ism]
  have g0 : biP σ (.isinst .tuple) [mv ms] = some (.v (.bool true)) := rfl
  unfold mv at g0 ⊢
  simp only [runFn, List.length_cons, List.length_nil, Nat.reduceAdd, Nat.reduceSub, if_true, List.replicate_succ, List.replicate, List.nil_append, List.cons_append, e_const, e_loc, e_not, e_bi, e_nil, e_cons, x_assign, x_ite, x_for, x_nil, x_cons, Bool.false_eq_true, if_false, items_tup, lkV_tup, lockV_tup, Option.map_some, Bool.not_true, bind_ok, k_not, k_bi, k_cons1, k_cons2, k_assign, k_if, k_if_f, k_for, k_forI, k_seq, k_seq_n, List.getElem?_cons_zero, List.set_cons_zero, List.set_cons_succ, fin_v, okB_some, truth_bool, constP_str, Flw.out, F_law_is_measure, g0]
  obtain ⟨ρ', h1⟩ := key ms ⟨#[]⟩ [mv ms, .str "", .undef] (execs { gl := G.const, cal := callD G (d + 1), atr := G.atr }
                  (PSs.cons
                    (PS.ite
                      (PE.orE
                        (PEs.cons (PE.bi (BI.isinst Ty.tuple) (PEs.cons (PE.loc 2) PEs.nil)).notE
                          (PEs.cons
                            (PE.cmp CmpOp.NotEq (PE.bi BI.len (PEs.cons (PE.loc 2) PEs.nil)) (PE.const (Const.int 2)))
                            (PEs.cons
                              (PE.bi (BI.isinst Ty.str)
                                  (PEs.cons ((PE.loc 2).idx (PE.const (Const.int 0))) PEs.nil)).notE
                              (PEs.cons
                                (PE.call "_law_whole"
                                    (PEs.cons ((PE.loc 2).idx (PE.const (Const.int 1))) PEs.nil)).notE
                                PEs.nil)))))
                      (PSs.cons (PS.ret 0 (PE.const (Const.bool false))) PSs.nil) PSs.nil)
                    (PSs.cons
                      (PS.ite
                        (PE.orE
                          (PEs.cons (PE.cmp CmpOp.LtE ((PE.loc 2).idx (PE.const (Const.int 0))) (PE.loc 1))
                            (PEs.cons
                              (PE.cmp CmpOp.Eq ((PE.loc 2).idx (PE.const (Const.int 1))) (PE.const (Const.int 0)))
                              PEs.nil)))
                        (PSs.cons (PS.ret 0 (PE.const (Const.bool false))) PSs.nil) PSs.nil)
                      (PSs.cons (PS.assign 1 0 ((PE.loc 2).idx (PE.const (Const.int 0)))) PSs.nil)))) hm.1 (fun kv hkv => ⟨strLt_empty (hm.2 kv hkv).1, (hm.2 kv hkv).2⟩) rfl (by
    intro kv a h1 h2
    have g0 : getAt σ (.tup [.str kv.1, .int kv.2]) (.int 0) = some (.v (.str kv.1)) := rfl
    have g1 : getAt σ (.tup [.str kv.1, .int kv.2]) (.int 1) = some (.v (.int kv.2)) := rfl
    have g2 : biP σ .len [.tup [.str kv.1, .int kv.2]] = some (.v (.int 2)) := by rw [len_tup _ _ (by simp)]; rfl
    have g3 : biP σ (.isinst .tuple) [.tup [.str kv.1, .int kv.2]] = some (.v (.bool true)) := rfl
    have g4 : biP σ (.isinst .str) [.str kv.1] = some (.v (.bool true)) := rfl
    have g5 : (kv.2 == 0) = false := by simpa using h2
    have g6 : cmpP σ .LtE (.str kv.1) (.str a) = some false := by rw [le_ss, h1]; rfl
    simp only [e_const, e_loc, e_or, e_not, e_cmp, e_idx, e_call, e_bi, e_nil, e_cons, e_or1, e_or2, x_assign, x_ite, x_nil, x_cons, Option.map_some, Bool.not_true, bind_ok, k_not, k_cmp1, k_cmp2, k_idx1, k_idx2, k_call, k_bi, k_cons1, k_cons2, k_or, k_or_f, k_assign, k_if, k_if_f, k_seq, k_seq_n, List.getElem?_cons_zero, List.getElem?_cons_succ, List.set_cons_zero, List.set_cons_succ, fin_v, okB_some, truth_bool, constP_int, eq_ii, ne_ii, g0, g1, g2, g3, g4, Option.map_some, Bool.not_true, run_whole, g5, g6, show ((2 : Int) == 2) = true from rfl])
  unfold mv at h1
  rw [h1]
  simp only [if_true, e_const, x_ret, x_cons, lockV_tup, unlk_ok, List.take_length, bind_ok, k_ret, k_seq, k_seq_n, k_seq_r, constP_bool, frz_bool]
end Mine

set_option autoImplicit false
set_option maxRecDepth 100000
set_option linter.unusedSimpArgs false
set_option linter.unusedVariables false
set_option exponentiation.threshold 2000
namespace Mine
open PySem
theorem fn_words : G.fn "_law_words" = some F_law_words := by rfl
theorem fmod_bd (x : Int) {n : Int} (h : 0 < n) : 0 ≤ x.fmod n ∧ x.fmod n < n := ⟨Int.fmod_nonneg_of_pos _ h, Int.fmod_lt_of_pos _ h⟩
theorem fmod_toNat (x : Int) {n : Nat} (h : 0 < n) : ∃ k : Nat, k < n ∧ x.fmod n = k := by
  have := fmod_bd x (n := n) (by exact om44 h)
  exact ⟨(x.fmod n).toNat, by exact om43 this, by exact om42 this⟩
theorem fdiv_bd {x : Int} (n : Int) (h : 0 < n) (hx : 0 ≤ x) : 0 ≤ x.fdiv n ∧ x.fdiv n ≤ x := by
  rw [Int.fdiv_eq_ediv_of_nonneg _ (by exact om41 h)]
  exact ⟨Int.ediv_nonneg hx (by exact om41 h), Int.ediv_le_self _ hx⟩

/-! ### texts -/
noncomputable def good (w : Str) : Prop := 1 ≤ w.length ∧ w.length ≤ 100
theorem good.ne {w : Str} (h : good w) : w ≠ (⟨#[]⟩ : Str) := by rintro rfl; exact absurd h.1 (by decide)
theorem app_len (x y : Str) : (x ++ y).length = x.length + y.length := by
  show (x.cps ++ y.cps).size = _; rw [Array.size_append]; rfl
theorem rep_len (x : Str) (n : Int) : (repStr x n).length = n.toNat * x.length := by
  have key : ∀ (k : Nat) (a : Array Nat), ((List.replicate k x.cps).foldl (· ++ ·) a).size = a.size + k * x.cps.size := by
    intro k
    induction k with
    | zero => intro a; simp
    | succ k ih => intro a; rw [List.replicate_succ, List.foldl_cons, ih, Array.size_append, Nat.succ_mul]; exact om40
  show ((List.replicate n.toNat x.cps).foldl (· ++ ·) #[]).size = _
  rw [key]; simp [Str.length]
noncomputable def abc : Str := "abcdefghijklmnopqrstuvwxyz"
theorem abc_size : abc.cps.size = 26 := by decide
noncomputable def signAt (k : Int) : Str := ⟨#[abc.cps.getD k.toNat 0]⟩
theorem signAt_len (k : Int) : (signAt k).length = 1 := rfl
theorem idx_abc (σ : AH) {k : Int} (h : 0 ≤ k ∧ k < 26) : getAt σ (.str "abcdefghijklmnopqrstuvwxyz") (.int k) = some (.v (.str (signAt k))) := by
  have h1 : k.toNat < abc.cps.size := by rw [abc_size]; exact om39 h
  show (if 0 ≤ k ∧ k ≤ 1000000 then (abc.cps[k.toNat]?).map fun c => Out.v (.str ⟨#[c]⟩) else none) = _
  rw [if_pos (by exact om38 h), getElem?_pos abc.cps k.toNat h1]
  simp [signAt, Array.getD, h1]

theorem app_ref {σ : AH} {r : Nat} {l : List PV} (h : σ[r]? = some (.list false l)) (hl : l.length ≤ 1000000) (v : PV) : bmP σ .append (.ref r) [v] = some (.none, σ.set r (.list false (l ++ [v]))) := by
  show (openL σ r).bind _ = _
  rw [show openL σ r = some l by unfold openL; rw [h]]
  exact if_pos (decide_eq_true hl)
theorem isTy_list {σ : AH} {i : Nat} {b : Bool} {l : List PV} (h : σ[i]? = some (.list b l)) : isTy σ .list (.ref i) = some true := by
  show isTyD .list (deref σ (.ref i)) = _
  rw [deref_l h]; rfl

theorem frz_snoc {σ : AH} {l : List PV} (hp : pureVs l = true) : frz σ.length (σ ++ [AObj.list false l]) 3 (.ref σ.length) = some (.lst l) :=
  (if_neg (Nat.lt_irrefl _)).trans (by show frzO _ (σ ++ [AObj.list false l])[σ.length]? = _; rw [get_snoc]; exact congrArg (Option.map PV.lst) (frzWs_pure _ _ hp))
theorem range_0 (σ : AH) {n : Int} (h : n.natAbs ≤ 1000000) : biP σ .range [.int n] = some (.v (.rng 0 n)) := if_pos h
theorem rng_get {n k : Nat} {x : PV} (h : (rngInts 0 n)[k]? = some x) : x = .int k ∧ k < n := by
  unfold rngInts at h
  rw [List.getElem?_map] at h
  obtain ⟨j, hj, rfl⟩ := Option.map_eq_some_iff.mp h
  have := List.getElem?_eq_some_iff.mp hj
  obtain ⟨h1, h2⟩ := this
  simp at h1 h2
  subst h2
  exact ⟨by simp, by assumption⟩
theorem rng_len (n : Nat) : (rngInts 0 n).length = n := by simp [rngInts]

theorem run_words (cell : Int) (many : Nat) (hm : many ≤ 1000) (d : Nat) (σ : AH) : ∃ ws : List Str, ws.length = many ∧ (∀ w ∈ ws, good w) ∧ callD G (d + 1) "_law_words" [.int cell, .int many] σ = .ok (.lst (ws.map .str)) σ := by
  have z8 : (8 : Int) ≠ 0 := by decide
  have z26 : (26 : Int) ≠ 0 := by decide
  have z4 : (4 : Int) ≠ 0 := by decide
  have z3 : (3 : Int) ≠ 0 := by decide
  have z9 : (9 : Int) ≠ 0 := by decide
  have z64 : (64 : Int) ≠ 0 := by decide
  have z1664 : (1664 : Int) ≠ 0 := by decide
  have b8 := fmod_bd cell (n := 8) (by decide)
  have zs : 1 + cell.fmod 8 ≠ 0 := by exact om37 b8
  have bp := fmod_bd (cell.fdiv 8) (n := 1 + cell.fmod 8) (by exact om36 b8)
  have b26 := fmod_bd (cell.fdiv 64) (n := 26) (by decide)
  rw [callD_s fn_words]
  simp only [runFn, List.length_cons, List.length_nil, Nat.reduceAdd, Nat.reduceSub, if_true, List.replicate_succ, List.replicate, List.nil_append, List.cons_append, e_const, e_loc, e_bin, e_lst, e_idx, e_bi, e_nil, e_cons, x_assign, x_for, x_cons, Bool.false_eq_true, if_false, items_rng, lkV_rng, lockV_rng, box_1, obj_list, Nat.pred, bind_ok, k_bin1, k_bin2, k_lst, k_idx1, k_idx2, k_bi, k_cons1, k_cons2, k_assign, k_for, k_forI, k_seq, k_seq_n, List.getElem?_cons_zero, List.getElem?_cons_succ, List.set_cons_zero, List.set_cons_succ, fin_v, constP_int, constP_str, add_ii, Flw.out, F_law_words, mod_ii _ _ _ z8, mod_ii _ _ _ zs, div_ii _ _ _ z8, div_ii _ _ _ z64, mod_ii _ _ _ z26, idx_abc _ b26, div_ii _ _ _ z3, mod_ii _ _ _ z4, range_0 _ (show (many : Int).natAbs ≤ 1000000 by exact om35 hm)]
  generalize hsz : 1 + cell.fmod 8 = size at *
  generalize hpl : (cell.fdiv 8).fmod size = place at *
  generalize hba : signAt ((cell.fdiv 64).fmod 26) = base at *
  have lb : base.length = 1 := by rw [← hba]; rfl
  generalize hwy : (cell.fdiv 3).fmod 4 = way at *
  have step := forL_const (body := execs { gl := G.const, cal := callD G d, atr := G.atr } (.cons (.assign 9 0 (.idx (.loc 2) (.bin .Mod (.bin .Add (.bin .FloorDiv (.loc 0) (.const (.int 1664))) (.bin .Mult (.const (.int 5)) (.loc 8))) (.const (.int 26))))) (.cons (.assign 10 0 (.bin .Add (.bin .Add (.bin .Mult (.loc 5) (.loc 4)) (.loc 9)) (.bin .Mult (.loc 5) (.bin .Sub (.bin .Sub (.loc 3) (.const (.int 1))) (.loc 4))))) (.cons (.ite (.cmp .Eq (.loc 6) (.const (.int 0))) (.cons (.assign 10 0 (.bin .Add (.loc 9) (.bin .Mult (.loc 5) (.bin .Mod (.bin .Add (.bin .Mult (.const (.int 3)) (.loc 8)) (.bin .FloorDiv (.loc 0) (.const (.int 9)))) (.const (.int 8)))))) .nil) .nil) (.cons (.ite (.andE (.cons (.cmp .Eq (.loc 6) (.const (.int 1))) (.cons (.cmp .Lt (.loc 8) (.const (.int 8))) .nil))) (.cons (.assign 10 0 (.bin .Mult (.loc 5) (.bin .Add (.const (.int 1)) (.bin .Mod (.bin .Add (.bin .Mult (.const (.int 3)) (.loc 8)) (.bin .FloorDiv (.loc 0) (.const (.int 9)))) (.const (.int 8)))))) .nil) .nil) (.cons (.ite (.andE (.cons (.cmp .Eq (.loc 6) (.const (.int 1))) (.cons (.cmp .Gt (.loc 8) (.const (.int 7))) .nil))) (.cons (.assign 10 0 (.bin .Add (.idx (.loc 2) (.bin .Mod (.bin .Sub (.bin .Add (.bin .FloorDiv (.loc 0) (.const (.int 64))) (.loc 8)) (.const (.int 7))) (.const (.int 26)))) (.bin .Mult (.loc 5) (.bin .Mod (.loc 8) (.const (.int 8)))))) .nil) .nil) (.cons (.expr (.meth (.loc 7) .append (.cons (.loc 10) .nil))) .nil))))))) (t := .one 8) (ks := [8, 9, 10])
    (ρ0 := [.int cell, .int many, .str "abcdefghijklmnopqrstuvwxyz", .int size, .int place, .str base, .int way, .ref σ.length, .undef, .undef, .undef])
    (fun k σ' => ∃ ws : List Str, ws.length = k ∧ k ≤ many ∧ (∀ w ∈ ws, good w) ∧ σ' = σ ++ [.list false (ws.map .str)]) (rngInts 0 many)
    (ρ := [.int cell, .int many, .str "abcdefghijklmnopqrstuvwxyz", .int size, .int place, .str base, .int way, .ref σ.length, .undef, .undef, .undef]) (σ := σ ++ [.list false []]) ?_ rfl ⟨[], rfl, by exact om34, by simp, rfl⟩
  · obtain ⟨σ', h1, ws, h2, _, h3, rfl⟩ := step
    refine ⟨ws, by rw [h2, rng_len], h3, ?_⟩
    rw [h1]
    simp only [if_true, e_loc, x_ret, x_cons, lockV_rng, unlk_ok, List.take_left, bind_ok, k_ret, k_seq, k_seq_n, k_seq_r, List.getElem?_cons_zero, List.getElem?_cons_succ]
    have hp : pureVs (ws.map .str) = true := by rw [pureVs_iff]; intro v hv; obtain ⟨w, _, rfl⟩ := List.mem_map.mp hv; rfl
    have : frz σ.length (σ ++ [AObj.list false (ws.map .str)]) 3 (.ref σ.length) = some (.lst (ws.map .str)) := frz_snoc hp
    rw [this]
  · rintro k x σ' hx ⟨ws, rfl, hk, hg, rfl⟩
    obtain ⟨rfl, hkm⟩ := rng_get hx
    have hl : (ws.map PV.str).length ≤ 1000000 := by simp; exact om33 hm hkm
    have m5 : IntMulOk 5 (ws.length : Int) := mulOk_l (by decide) (by decide)
    have m3 : IntMulOk 3 (ws.length : Int) := mulOk_l (by decide) (by decide)
    have c26 := fmod_bd (cell.fdiv 1664 + 5 * (ws.length : Int)) (n := 26) (by decide)
    have c8 := fmod_bd (3 * (ws.length : Int) + cell.fdiv 9) (n := 8) (by decide)
    have c7 := fmod_bd (cell.fdiv 64 + (ws.length : Int) - 7) (n := 26) (by decide)
    have ck := fmod_bd (ws.length : Int) (n := 8) (by decide)
    generalize hs : signAt ((cell.fdiv 1664 + 5 * (ws.length : Int)).fmod 26) = sg at *
    have ls : sg.length = 1 := by rw [← hs]; rfl
    have hst : ∀ w : Str, good w → ∃ ws' : List Str, ws'.length = ws.length + 1 ∧ ws.length + 1 ≤ many ∧ (∀ w ∈ ws', good w) ∧ σ ++ [AObj.list false (ws.map PV.str ++ [.str w])] = σ ++ [.list false (ws'.map .str)] := fun w hw =>
      ⟨ws ++ [w], by simp, by exact om32 hkm, fun v hv => by rcases List.mem_append.mp hv with h | h; exact hg v h; rw [List.mem_singleton.mp h]; exact hw, by simp⟩
    have r1 := rep_len base place
    have r2 := rep_len base (size - 1 - place)
    have r3 := rep_len base ((3 * (ws.length : Int) + cell.fdiv 9).fmod 8)
    have r4 := rep_len base (1 + (3 * (ws.length : Int) + cell.fdiv 9).fmod 8)
    have r5 := rep_len base ((ws.length : Int).fmod 8)
    rw [lb, Nat.mul_one] at r1 r2 r3 r4 r5
    have q0 := idx_abc (σ ++ [AObj.list false (ws.map .str)]) c26
    rw [hs] at q0
    have q1 := mul_si (σ ++ [AObj.list false (ws.map .str)]) base place ⟨by exact om31 b8 hsz bp, by exact om30 bp, by exact om23 lb⟩
    have q2 := mul_si (σ ++ [AObj.list false (ws.map .str)]) base (size - 1 - place) ⟨by exact om29 b8 hsz bp, by exact om28 bp, by exact om23 lb⟩
    have q3 := mul_si (σ ++ [AObj.list false (ws.map .str)]) base ((3 * (ws.length : Int) + cell.fdiv 9).fmod 8) ⟨by exact om25 c8, by exact om24 c8, by exact om23 lb⟩
    have q4 := mul_si (σ ++ [AObj.list false (ws.map .str)]) base (1 + (3 * (ws.length : Int) + cell.fdiv 9).fmod 8) ⟨by exact om27 c8, by exact om26 c8, by exact om23 lb⟩
    have q5 := mul_si (σ ++ [AObj.list false (ws.map .str)]) base ((ws.length : Int).fmod 8) ⟨by exact om25 ck, by exact om24 ck, by exact om23 lb⟩
    have l7 := signAt_len ((cell.fdiv 64 + (ws.length : Int) - 7).fmod 26)
    have a1 := add_ss (σ ++ [AObj.list false (ws.map .str)]) (repStr base place) sg (by exact om22 b8 hsz bp ls r1)
    have a2 := add_ss (σ ++ [AObj.list false (ws.map .str)]) (repStr base place ++ sg) (repStr base (size - 1 - place)) (by rw [app_len]; exact om21 b8 hsz bp ls r1 r2)
    have a3 := add_ss (σ ++ [AObj.list false (ws.map .str)]) sg (repStr base ((3 * (ws.length : Int) + cell.fdiv 9).fmod 8)) (by exact om20 c8 ls r3)
    have a5 := add_ss (σ ++ [AObj.list false (ws.map .str)]) (signAt ((cell.fdiv 64 + (ws.length : Int) - 7).fmod 26)) (repStr base ((ws.length : Int).fmod 8)) (by exact om19 ck r5 l7)
    by_cases w0 : way = 0
    · subst w0
      refine ⟨_, [.int cell, .int many, .str "abcdefghijklmnopqrstuvwxyz", .int size, .int place, .str base, .int 0, .ref σ.length, .int ws.length, .str sg, .str (sg ++ repStr base ((3 * (ws.length : Int) + cell.fdiv 9).fmod 8))], _, rfl, ?_, rfl, hst (sg ++ repStr base ((3 * (ws.length : Int) + cell.fdiv 9).fmod 8)) ⟨by rw [app_len]; exact om12 ls, by rw [app_len]; exact om18 c8 ls r3⟩⟩
      simp only [e_const, e_loc, e_and, e_bin, e_cmp, e_idx, e_meth, e_nil, e_cons, e_and2, x_assign, x_expr, x_ite, x_nil, x_cons, bind_ok, k_bin1, k_bin2, k_cmp1, k_cmp2, k_idx1, k_idx2, k_meth1, k_methI, k_meth2, k_meth3, k_cons1, k_cons2, k_and, k_and_f, k_assign, k_expr, k_if, k_if_t, k_if_f, k_seq, k_seq_n, List.getElem?_cons_zero, List.getElem?_cons_succ, List.set_cons_zero, List.set_cons_succ, fin_v, okB_some, truth_bool, constP_int, add_ii, sub_ii, eq_ii, div_ii _ _ _ z1664, mul_ii _ _ _ m5, mul_ii _ _ _ m3, mod_ii _ _ _ z26, mod_ii _ _ _ z8, div_ii _ _ _ z9, q0, q1, q2, q3, a1, a2, a3, show ((0 : Int) == 0) = true from rfl, show ((0 : Int) == 1) = false from rfl, isTy_list get_snoc, BM.ty, app_ref get_snoc hl, set_snoc]
    · have w0' : (way == 0) = false := by simpa using w0
      by_cases w1 : way = 1
      · subst w1
        by_cases k8 : (ws.length : Int) < 8
        · have k8' : decide ((ws.length : Int) < 8) = true := by simpa using k8
          have k7' : decide ((ws.length : Int) > 7) = false := by simp; exact om17 k8
          refine ⟨_, [.int cell, .int many, .str "abcdefghijklmnopqrstuvwxyz", .int size, .int place, .str base, .int 1, .ref σ.length, .int ws.length, .str sg, .str (repStr base (1 + (3 * (ws.length : Int) + cell.fdiv 9).fmod 8))], _, rfl, ?_, rfl, hst (repStr base (1 + (3 * (ws.length : Int) + cell.fdiv 9).fmod 8)) ⟨by exact om16 c8 r4, by exact om15 c8 r4⟩⟩
          simp only [e_const, e_loc, e_and, e_bin, e_cmp, e_idx, e_meth, e_nil, e_cons, e_and1, e_and2, x_assign, x_expr, x_ite, x_nil, x_cons, bind_ok, k_bin1, k_bin2, k_cmp1, k_cmp2, k_idx1, k_idx2, k_meth1, k_methI, k_meth2, k_meth3, k_cons1, k_cons2, k_and, k_and_t, k_assign, k_expr, k_if, k_if_t, k_if_f, k_seq, k_seq_n, List.getElem?_cons_zero, List.getElem?_cons_succ, List.set_cons_zero, List.set_cons_succ, fin_v, okB_some, truth_bool, constP_int, add_ii, sub_ii, lt_ii, gt_ii, eq_ii, div_ii _ _ _ z1664, mul_ii _ _ _ m5, mul_ii _ _ _ m3, mod_ii _ _ _ z26, mod_ii _ _ _ z8, div_ii _ _ _ z9, q0, q1, q2, q4, a1, a2, show ((1 : Int) == 0) = false from rfl, show ((1 : Int) == 1) = true from rfl, k8', k7', isTy_list get_snoc, BM.ty, app_ref get_snoc hl, set_snoc]
        · have k8' : decide ((ws.length : Int) < 8) = false := by simp; exact om14 k8
          have k7' : decide ((ws.length : Int) > 7) = true := by simp; exact om13 k8
          refine ⟨_, [.int cell, .int many, .str "abcdefghijklmnopqrstuvwxyz", .int size, .int place, .str base, .int 1, .ref σ.length, .int ws.length, .str sg, .str (signAt ((cell.fdiv 64 + (ws.length : Int) - 7).fmod 26) ++ repStr base ((ws.length : Int).fmod 8))], _, rfl, ?_, rfl, hst (signAt ((cell.fdiv 64 + (ws.length : Int) - 7).fmod 26) ++ repStr base ((ws.length : Int).fmod 8)) ⟨by rw [app_len]; exact om12 l7, by rw [app_len]; exact om11 ck r5 l7⟩⟩
          simp only [e_const, e_loc, e_and, e_bin, e_cmp, e_idx, e_meth, e_nil, e_cons, e_and1, e_and2, x_assign, x_expr, x_ite, x_nil, x_cons, bind_ok, k_bin1, k_bin2, k_cmp1, k_cmp2, k_idx1, k_idx2, k_meth1, k_methI, k_meth2, k_meth3, k_cons1, k_cons2, k_and, k_and_t, k_assign, k_expr, k_if, k_if_t, k_if_f, k_seq, k_seq_n, List.getElem?_cons_zero, List.getElem?_cons_succ, List.set_cons_zero, List.set_cons_succ, fin_v, okB_some, truth_bool, constP_int, add_ii, sub_ii, lt_ii, gt_ii, eq_ii, div_ii _ _ _ z1664, mul_ii _ _ _ m5, mod_ii _ _ _ z26, mod_ii _ _ _ z8, div_ii _ _ _ z64, q0, q1, q2, q5, a1, a2, a5, idx_abc _ c7, show ((1 : Int) == 0) = false from rfl, show ((1 : Int) == 1) = true from rfl, k8', k7', isTy_list get_snoc, BM.ty, app_ref get_snoc hl, set_snoc]
      · have w1' : (way == 1) = false := by simpa using w1
        refine ⟨_, [.int cell, .int many, .str "abcdefghijklmnopqrstuvwxyz", .int size, .int place, .str base, .int way, .ref σ.length, .int ws.length, .str sg, .str (repStr base place ++ sg ++ repStr base (size - 1 - place))], _, rfl, ?_, rfl, hst (repStr base place ++ sg ++ repStr base (size - 1 - place)) ⟨by rw [app_len, app_len]; exact om10 ls, by rw [app_len, app_len]; exact om9 b8 hsz bp ls r1 r2⟩⟩
        simp only [e_const, e_loc, e_and, e_bin, e_cmp, e_idx, e_meth, e_nil, e_cons, e_and2, x_assign, x_expr, x_ite, x_nil, x_cons, bind_ok, k_bin1, k_bin2, k_cmp1, k_cmp2, k_idx1, k_idx2, k_meth1, k_methI, k_meth2, k_meth3, k_cons1, k_cons2, k_and, k_and_f, k_assign, k_expr, k_if, k_if_f, k_seq, k_seq_n, List.getElem?_cons_zero, List.getElem?_cons_succ, List.set_cons_zero, List.set_cons_succ, fin_v, okB_some, truth_bool, constP_int, add_ii, sub_ii, eq_ii, div_ii _ _ _ z1664, mul_ii _ _ _ m5, mod_ii _ _ _ z26, q0, q1, q2, a1, a2, w0', w1', isTy_list get_snoc, BM.ty, app_ref get_snoc hl, set_snoc]
end Mine

set_option autoImplicit false
set_option maxRecDepth 100000
set_option linter.unusedSimpArgs false
set_option linter.unusedVariables false
namespace Mine
open PySem
/-! ## reckonings as trees -/
set_option genCtorIdx true
inductive Op where
  | plus | minus | times | over
inductive T where
  | inp (w : Str)
  | nou
  | is (n : PV) (m : DI)
  | bin (o : Op) (a b : T)
  | pow (a : T) (n : Int)
  | less (a b c d : T)
noncomputable def Op.word : Op → Str
  | .plus => "plus" | .minus => "minus" | .times => "times" | .over => "over"
noncomputable def T.word : T → Str
  | .inp _ => "input" | .nou => "nought" | .is _ _ => "is" | .bin o _ _ => o.word | .pow _ _ => "power" | .less _ _ _ _ => "less"
noncomputable def tv : T → PV
  | .inp w => .tup [.str "input", .str w]
  | .nou => .tup [.str "nought"]
  | .is n m => .tup [.str "is", n, mv m]
  | .bin o a b => .tup [.str o.word, tv a, tv b]
  | .pow a n => .tup [.str "power", tv a, .int n]
  | .less a b c d => .tup [.str "less", tv a, tv b, tv c, tv d]
noncomputable def T.kids : T → List T
  | .bin _ a b => [a, b]
  | .pow a _ => [a]
  | .less a b c d => [a, b, c, d]
  | .inp _ => []
  | .nou => []
  | .is _ _ => []
noncomputable def T.k : T → Nat
  | .is _ _ => 0 | .inp _ => 1 | .nou => 2 | .bin .times _ _ => 3 | .bin .over _ _ => 4 | .pow _ _ => 5 | .less _ _ _ _ => 6 | .bin .plus _ _ => 7 | .bin .minus _ _ => 8
noncomputable def T.ht : T → Nat
  | .bin _ a b => 1 + max a.ht b.ht
  | .pow a _ => 1 + a.ht
  | .less a b c d => 1 + max (max a.ht b.ht) (max c.ht d.ht)
  | .inp _ => 1
  | .nou => 1
  | .is _ _ => 1
/-- leaves, and nodes in all -/
noncomputable def T.sz : T → Nat
  | .bin _ a b => 1 + (a.sz + b.sz)
  | .pow a _ => 1 + a.sz
  | .less a b c d => 1 + (a.sz + b.sz + (c.sz + d.sz))
  | .inp _ => 1
  | .nou => 1
  | .is _ _ => 1
noncomputable def T.pure : T → Prop
  | .is n _ => pureV n = true
  | .bin _ a b => a.pure ∧ b.pure
  | .pow a _ => a.pure
  | .less a b c d => a.pure ∧ b.pure ∧ c.pure ∧ d.pure
  | .inp _ => True
  | .nou => True
theorem isU_tv (t : T) : isU (tv t) = false := by cases t <;> rfl
theorem tv_pure : ∀ {t : T}, t.pure → pureV (tv t) = true
  | .inp w, _ => rfl
  | .nou, _ => rfl
  | .is n m, h => by
    show (true && (pureV n && (pureV (mv m) && true))) = true
    rw [show pureV n = true from h, mv_pure]; rfl
  | .bin o a b, h => by
    show (true && (pureV (tv a) && (pureV (tv b) && true))) = true
    rw [tv_pure h.1, tv_pure h.2]; rfl
  | .pow a n, h => by
    show (true && (pureV (tv a) && (true && true))) = true
    rw [tv_pure (t := a) h]; rfl
  | .less a b c d, h => by
    show (true && (pureV (tv a) && (pureV (tv b) && (pureV (tv c) && (pureV (tv d) && true))))) = true
    rw [tv_pure h.1, tv_pure h.2.1, tv_pure h.2.2.1, tv_pure h.2.2.2]; rfl
theorem kids_pure {t : T} (h : t.pure) : ∀ x ∈ t.kids, x.pure := by
  cases t with
  | bin o a b => intro x hx; simp [T.kids] at hx; rcases hx with rfl | rfl; exact h.1; exact h.2
  | pow a n => intro x hx; simp [T.kids] at hx; subst hx; exact h
  | less a b c d => intro x hx; simp [T.kids] at hx; rcases hx with rfl | rfl | rfl | rfl; exact h.1; exact h.2.1; exact h.2.2.1; exact h.2.2.2
  | _ => intro x hx; cases hx
theorem pureVs_map {α : Type} {f : α → PV} {l : List α} (h : ∀ x ∈ l, pureV (f x) = true) : pureVs (l.map f) = true := by
  rw [pureVs_iff]; intro v hv; obtain ⟨x, hx, rfl⟩ := List.mem_map.mp hv; exact h x hx
theorem pure_lst {l : List PV} (h : pureVs l = true) : pureV (.lst l) = true := h
theorem frz_lst {n k : Nat} {σ : AH} {l : List PV} (h : pureVs l = true) : frz n σ k (.lst l) = some (.lst l) := frz_pure (pure_lst h)

/-! ### the words -/
theorem get0 (σ : AH) (t : T) : getAt σ (tv t) (.int 0) = some (.v (.str t.word)) := by cases t <;> rfl
theorem w_is (t : T) : (t.word == "is") = (t.k == 0) := by rcases t with _ | _ | _ | ⟨⟨⟩, _, _⟩ | _ | _ <;> rfl
theorem w_inp (t : T) : (t.word == "input") = (t.k == 1) := by rcases t with _ | _ | _ | ⟨⟨⟩, _, _⟩ | _ | _ <;> rfl
theorem w_nou (t : T) : (t.word == "nought") = (t.k == 2) := by rcases t with _ | _ | _ | ⟨⟨⟩, _, _⟩ | _ | _ <;> rfl
theorem w_times (t : T) : (t.word == "times") = (t.k == 3) := by rcases t with _ | _ | _ | ⟨⟨⟩, _, _⟩ | _ | _ <;> rfl
theorem w_over (t : T) : (t.word == "over") = (t.k == 4) := by rcases t with _ | _ | _ | ⟨⟨⟩, _, _⟩ | _ | _ <;> rfl
theorem w_pow (t : T) : (t.word == "power") = (t.k == 5) := by rcases t with _ | _ | _ | ⟨⟨⟩, _, _⟩ | _ | _ <;> rfl
theorem w_less (t : T) : (t.word == "less") = (t.k == 6) := by rcases t with _ | _ | _ | ⟨⟨⟩, _, _⟩ | _ | _ <;> rfl
theorem kids_len (t : T) : t.kids.length ≤ 4 := by cases t <;> simp [T.kids]

theorem fn_parts : G.fn "parts_of" = some F_parts_of := by rfl
theorem fn_within : G.fn "all_within" = some F_all_within := by rfl
theorem fn_inputs : G.fn "inputs" = some F_inputs := by rfl
theorem fn_noughts : G.fn "noughts" = some F_noughts := by rfl
theorem fn_lparts : G.fn "_law_parts" = some F_law_parts := by rfl
theorem fn_lnoughts : G.fn "_law_noughts" = some F_law_noughts := by rfl
theorem fn_linputs : G.fn "_law_inputs" = some F_law_inputs := by rfl
theorem gl_parts : G.const "PARTS" = some partsV := by rfl
noncomputable def T.np : T → Int
  | .bin _ _ _ => 2 | .pow _ _ => 1 | .less _ _ _ _ => 4 | .inp _ => 0 | .nou => 0 | .is _ _ => 0
theorem np_get (σ : AH) (t : T) : getAt σ partsV (.str t.word) = some (.v (.int t.np)) := by rcases t with _ | _ | _ | ⟨⟨⟩, _, _⟩ | _ | _ <;> rfl
theorem cut_parts (σ : AH) (t : T) : cutP σ (tv t) (.int 1) (.int (1 + t.np)) = some (.v (.tup (t.kids.map tv))) := by cases t <;> rfl
theorem list_tup {σ : AH} {l : List PV} (h : l.length ≤ 1000000) : biP σ .list [.tup l] = some (.f (.list l)) := if_pos (decide_eq_true h)
theorem run_parts {t : T} (hp : t.pure) (d : Nat) (σ : AH) : callD G (d + 1) "parts_of" [tv t] σ = .ok (.lst (t.kids.map tv)) σ := by
  rw [callD_s fn_parts]
  have h1 : (t.kids.map tv).length ≤ 1000000 := by rw [List.length_map]; have := kids_len t; exact om45 this
  have h2 : pureVs (t.kids.map tv) = true := pureVs_map fun x hx => tv_pure (kids_pure hp x hx)
  simp only [runFn, List.length_cons, List.length_nil, Nat.reduceAdd, if_true, Nat.sub_self, List.replicate_zero, List.append_nil, e_const, e_locV, locV_some, isU_tv, e_glob, e_bin, e_idx, e_bi, e_nil, e_cons, x_ret, x_cons, Bool.false_eq_true, if_false, val_list, List.take_length, bind_ok, k_bin1, k_bin2, k_idx1, k_idx2, k_bi, k_cons1, k_cons2, k_ret, k_seq, k_seq_r, List.getElem?_cons_zero, fin_v, fin_f0, constP_int, add_ii, Flw.out, e_sliceFT, k_sl1, k_sl2, k_sl3, okV_some, F_parts_of, gl_parts, get0, np_get, cut_parts, list_tup h1, frz_lst h2]
end Mine

set_option autoImplicit false
set_option maxRecDepth 100000
set_option linter.unusedSimpArgs false
set_option linter.unusedVariables false
namespace Mine
open PySem
/-! ## loops by what is done already -/
theorem forL_list {α : Type} {c : Cx} {body : PSs} {t : Tgt} {ks : List Nat} (el : α → PV) (S : List α → AH) (R : List α → List PV) (all : List α)
    (hb : ∀ (done : List α) (x : α) (rest : List α), done ++ x :: rest = all → ∃ ρ1 ρ2, bindT t (el x) (R done) = some ρ1 ∧ execs c body ρ1 (S done) = .ok (.next, ρ2) (S (done ++ [x])) ∧ kill ks ρ2 = R (done ++ [x])) :
    ∀ (xs done : List α) (ρ : List PV), kill ks ρ = R done → done ++ xs = all → forL (execs c body) t ks (xs.map el) ρ (S done) = .ok (.next, R all) (S all) := by
  intro xs
  induction xs with
  | nil =>
    intro done ρ hk he
    rw [List.append_nil] at he
    subst he
    rw [List.map_nil, forL, hk]
  | cons x xs ih =>
    intro done ρ hk he
    obtain ⟨ρ1, ρ2, h1, h2, h3⟩ := hb done x xs he
    rw [List.map_cons, forL, hk, h1]
    simp only [h2, bind_ok]
    exact ih (done ++ [x]) ρ2 h3 (by rw [List.append_assoc]; exact he)
theorem compL_pure {α : Type} {cond elt : List PV → AH → Res PV} {t : Tgt} {ρ : List PV} {σ : AH} (el : α → PV) (p : α → Bool) (o : α → PV) : ∀ (xs : List α)
    (_ : ∀ x ∈ xs, ∃ ρ1, bindT t (el x) ρ = some ρ1 ∧ cond ρ1 σ = .ok (.bool (p x)) σ ∧ (p x = true → elt ρ1 σ = .ok (o x) σ)), compL cond elt t ρ (xs.map el) σ = .ok ((xs.filter p).map o) σ
  | [], _ => rfl
  | x :: xs, hb => by
    obtain ⟨ρ1, h1, h2, h3⟩ := hb x List.mem_cons_self
    have ih := compL_pure el p o xs fun y hy => hb y (List.mem_cons_of_mem _ hy)
    rw [List.map_cons, compL, h1]
    simp only [h2, bind_ok, truth_bool]
    cases hp : p x with
    | true =>
      simp only [h3 hp, bind_ok]
      rw [ih]
      simp only [bind_ok, List.filter_cons, hp, if_true, List.map_cons]
    | false =>
      simp only [ih, List.filter_cons, hp, Bool.false_eq_true, if_false]

/-! ### nodes -/
noncomputable def T.nodes : T → List T
  | .bin o a b => .bin o a b :: (a.nodes ++ b.nodes)
  | .pow a n => .pow a n :: a.nodes
  | .less a b c d => .less a b c d :: (a.nodes ++ (b.nodes ++ (c.nodes ++ d.nodes)))
  | .inp w => [.inp w]
  | .nou => [.nou]
  | .is n m => [.is n m]
theorem nodes_eq (t : T) : t.nodes = t :: t.kids.flatMap T.nodes := by cases t <;> simp [T.nodes, T.kids]
theorem nodes_len : ∀ t : T, t.nodes.length = t.sz
  | .inp _ | .nou | .is _ _ => rfl
  | .bin o a b => by rw [T.nodes, T.sz, List.length_cons, List.length_append, nodes_len a, nodes_len b]; exact om70
  | .pow a n => by rw [T.nodes, T.sz, List.length_cons, nodes_len a]; exact om69
  | .less a b c d => by rw [T.nodes, T.sz, List.length_cons, List.length_append, List.length_append, List.length_append, nodes_len a, nodes_len b, nodes_len c, nodes_len d]; exact om68
theorem kids_ht {t x : T} (h : x ∈ t.kids) : x.ht < t.ht := by
  cases t with
  | bin o a b => simp [T.kids] at h; rcases h with rfl | rfl <;> simp only [T.ht] <;> (first | exact om66 | exact om67)
  | pow a n => simp [T.kids] at h; subst h; simp only [T.ht]; exact om59
  | less a b c d => simp [T.kids] at h; rcases h with rfl | rfl | rfl | rfl <;> simp only [T.ht] <;> (first | exact om62 | exact om63 | exact om64 | exact om65)
  | _ => cases h
theorem kids_sz {t x : T} (h : x ∈ t.kids) : x.sz < t.sz := by
  cases t with
  | bin o a b => simp [T.kids] at h; rcases h with rfl | rfl <;> simp only [T.sz] <;> (first | exact om60 | exact om61)
  | pow a n => simp [T.kids] at h; subst h; simp only [T.sz]; exact om59
  | less a b c d => simp [T.kids] at h; rcases h with rfl | rfl | rfl | rfl <;> simp only [T.sz] <;> (first | exact om55 | exact om56 | exact om57 | exact om58)
  | _ => cases h
theorem ht_pos (t : T) : 1 ≤ t.ht := by cases t <;> simp only [T.ht] <;> (first | exact om51 | exact om52 | exact om53 | exact om54)
theorem nodes_pure : ∀ {t : T}, t.pure → ∀ x ∈ t.nodes, x.pure
  | .inp _, h => fun x hx => by simp [T.nodes] at hx; subst hx; exact h
  | .nou, h => fun x hx => by simp [T.nodes] at hx; subst hx; exact h
  | .is _ _, h => fun x hx => by simp [T.nodes] at hx; subst hx; exact h
  | .bin o a b, h => fun x hx => by
    simp [T.nodes] at hx
    rcases hx with rfl | hx | hx
    · exact h
    · exact nodes_pure h.1 x hx
    · exact nodes_pure h.2 x hx
  | .pow a n, h => fun x hx => by
    simp [T.nodes] at hx
    rcases hx with rfl | hx
    · exact h
    · exact nodes_pure (t := a) h x hx
  | .less a b c d, h => fun x hx => by
    simp [T.nodes] at hx
    rcases hx with rfl | hx | hx | hx | hx
    · exact h
    · exact nodes_pure h.1 x hx
    · exact nodes_pure h.2.1 x hx
    · exact nodes_pure h.2.2.1 x hx
    · exact nodes_pure h.2.2.2 x hx
/-- by parts -/
theorem T.byKids {P : T → Prop} (h : ∀ t, (∀ x ∈ t.kids, P x) → P t) (t : T) : P t := by
  induction t with
  | bin o a b ha hb => exact h _ fun x hx => by simp [T.kids] at hx; rcases hx with rfl | rfl <;> assumption
  | pow a n ha => exact h _ fun x hx => by simp [T.kids] at hx; subst hx; assumption
  | less a b c d ha hb hc hd => exact h _ fun x hx => by simp [T.kids] at hx; rcases hx with rfl | rfl | rfl | rfl <;> assumption
  | _ => exact h _ fun x hx => nomatch hx

theorem ext_snoc {σ : AH} {l r : List PV} (hl : l.length + r.length ≤ 1000000) : bmP (σ ++ [AObj.list false l]) .extend (.ref σ.length) [.lst r] = some (.none, σ ++ [AObj.list false (l ++ r)]) := by
  show (openL (σ ++ [AObj.list false l]) σ.length).bind _ = _
  rw [show openL (σ ++ [AObj.list false l]) σ.length = some l by unfold openL; rw [get_snoc]]
  exact (if_pos (decide_eq_true hl)).trans (by rw [set_snoc])
theorem flat_le {l done : List T} {x : T} {rest : List T} (h : done ++ x :: rest = l) : (done.flatMap T.nodes).length + x.nodes.length ≤ (l.flatMap T.nodes).length := by
  subst h
  rw [List.flatMap_append, List.flatMap_cons, List.length_append, List.length_append]; exact om50
theorem run_within (t : T) : ∀ (d : Nat) (σ : AH), t.pure → t.sz ≤ 1000 → t.ht ≤ d → callD G (d + 1) "all_within" [tv t] σ = .ok (.lst (t.nodes.map tv)) σ := by
  induction t using T.byKids with | h t ih => ?_
  intro d σ hp hs hd
  have hq := nodes_pure hp
  have hn := nodes_eq t
  have hl := nodes_len t
  obtain ⟨e, rfl⟩ : ∃ e, d = e + 1 := ⟨d - 1, by have := ht_pos t; exact om49 hd this⟩
  rw [callD_s fn_within]
  simp only [runFn, List.length_cons, List.length_nil, Nat.reduceAdd, Nat.reduceSub, if_true, List.replicate_succ, List.replicate, List.nil_append, List.cons_append, e_locV, locV_some, isU_tv, e_lst, e_call, e_nil, e_cons, x_assign, x_for, x_cons, Bool.false_eq_true, if_false, box_1, obj_list, Nat.pred, bind_ok, k_lst, k_call, k_cons1, k_cons2, k_assign, k_seq, k_seq_n, List.getElem?_cons_zero, List.set_cons_zero, List.set_cons_succ, Flw.out, F_all_within]
  rw [run_parts hp]
  simp only [items_lst, lkV_lst, lockV_lst, bind_ok, k_for, k_forI]
  have step := forL_list (c := ⟨G.const, callD G (e + 1), G.atr⟩) (body := (.cons (.expr (.meth (.loc 1) .extend (.cons (.call "all_within" (.cons (.loc 2) .nil)) .nil))) .nil)) (t := .one 2) (ks := [2]) tv (fun done => σ ++ [.list false ((t :: done.flatMap T.nodes).map tv)]) (fun _ => [tv t, .ref σ.length, .undef]) t.kids ?_ t.kids [] [tv t, .ref σ.length, .undef] rfl rfl
  · have hpl : pureVs ((t :: t.kids.flatMap T.nodes).map tv) = true := pureVs_map fun x hx => tv_pure (hq x (hn ▸ hx))
    rw [show (σ ++ [AObj.list false [tv t]]) = (fun done : List T => σ ++ [AObj.list false ((t :: done.flatMap T.nodes).map tv)]) [] from rfl, step]
    simp only [if_true, e_locV, locV_some, isU_ref, x_ret, x_cons, Bool.false_eq_true, if_false, lockV_lst, unlk_ok, List.take_left, bind_ok, k_ret, k_seq, k_seq_n, k_seq_r, List.getElem?_cons_zero, List.getElem?_cons_succ]
    rw [frz_snoc hpl, hn]
  · intro done x rest he
    have hx : x ∈ t.kids := he ▸ List.mem_append_right _ List.mem_cons_self
    have h1 := ih x hx e (σ ++ [AObj.list false ((t :: done.flatMap T.nodes).map tv)]) (kids_pure hp x hx) (by have := kids_sz hx; exact om48 hs this) (by have := kids_ht hx; exact om47 hd this)
    have h2 := flat_le he
    rw [hn, List.length_cons] at hl
    refine ⟨_, [tv t, .ref σ.length, tv x], rfl, ?_, rfl⟩
    simp only [e_locV, locV_some, isU_ref, e_meth, x_expr, x_cons, Bool.false_eq_true, if_false, bind_ok, k_meth1, List.getElem?_cons_zero, List.getElem?_cons_succ, List.set_cons_zero, List.set_cons_succ]
    simp only [isTy_list get_snoc, BM.ty, e_locV, locV_some, isU_tv, e_call, e_nil, e_cons, Bool.false_eq_true, if_false, bind_ok, k_call, k_methI, k_meth2, k_cons1, k_cons2, List.getElem?_cons_zero, List.getElem?_cons_succ, h1]
    rw [ext_snoc (by rw [List.length_map, List.length_map, List.length_cons]; exact om46 hs hl h2)]
    simp only [List.append_nil, List.cons_append, x_nil, bind_ok, k_meth3, k_expr, k_seq, k_seq_n, List.flatMap_append, List.flatMap_cons, List.flatMap_nil, List.append_nil, List.map_cons, List.map_append, List.cons_append]
end Mine

set_option autoImplicit false
set_option maxRecDepth 100000
set_option linter.unusedSimpArgs false
set_option linter.unusedVariables false
namespace Mine
open PySem
/-! ## noughts -/
noncomputable def T.nn : T → Nat
  | .nou => 1
  | .bin _ a b => a.nn + b.nn
  | .pow a _ => a.nn
  | .less a b c d => a.nn + b.nn + (c.nn + d.nn)
  | .inp _ => 0
  | .is _ _ => 0
theorem nn_nodes : ∀ t : T, (t.nodes.filter fun x => x.k == 2).length = t.nn
  | .inp _ | .nou | .is _ _ => rfl
  | .bin o a b => by
    have h : ((T.bin o a b).k == 2) = false := by cases o <;> rfl
    rw [T.nodes, List.filter_cons, h, if_neg Bool.false_ne_true, List.filter_append, List.length_append, nn_nodes a, nn_nodes b]; rfl
  | .pow a n => by
    rw [T.nodes, List.filter_cons, show ((T.pow a n).k == 2) = false from rfl, if_neg Bool.false_ne_true, nn_nodes a]; rfl
  | .less a b c d => by
    rw [T.nodes, List.filter_cons, show ((T.less a b c d).k == 2) = false from rfl, if_neg Bool.false_ne_true, List.filter_append, List.filter_append, List.filter_append, List.length_append, List.length_append, List.length_append, nn_nodes a, nn_nodes b, nn_nodes c, nn_nodes d, T.nn]; exact om74
theorem nn_sz : ∀ t : T, t.nn ≤ t.sz := fun t => by rw [← nn_nodes, ← nodes_len]; exact List.length_filter_le ..
theorem run_noughts (t : T) (d : Nat) (σ : AH) (hp : t.pure) (hs : t.sz ≤ 1000) (hd : t.ht ≤ d) : callD G (d + 2) "noughts" [tv t] σ = .ok (.int t.nn) σ := by
  rw [callD_s fn_noughts]
  simp only [runFn, List.length_cons, List.length_nil, Nat.reduceAdd, Nat.reduceSub, if_true, List.replicate_succ, List.replicate, List.nil_append, List.cons_append, e_locV, locV_some, isU_tv, e_comp, e_call, e_bi, e_nil, e_cons, x_ret, x_cons, Bool.false_eq_true, if_false, bind_ok, k_call, k_cons1, k_cons2, List.getElem?_cons_zero, Flw.out, F_noughts]
  rw [run_within t d σ hp hs hd]
  simp only [items_lst, lkV_lst, lockV_lst, Nat.pred, bind_ok, k_comp1, k_compI, List.set_cons_zero, List.set_cons_succ, kill, List.foldl_cons, List.foldl_nil, tgtSlots]
  have hlen : ((t.nodes.filter fun x => x.k == 2).map tv).length ≤ 1000000 := by rw [List.length_map, nn_nodes]; have := nn_sz t; exact om73 hs this
  rw [compL_pure (σ := σ) tv (fun x => x.k == 2) tv t.nodes fun x _ => ⟨_, rfl, by simp only [e_const, e_locV, locV_some, isU_tv, e_cmp, e_idx, Bool.false_eq_true, if_false, bind_ok, k_cmp1, k_cmp2, k_idx1, k_idx2, List.getElem?_cons_zero, List.getElem?_cons_succ, List.set_cons_zero, List.set_cons_succ, fin_v, okB_some, constP_int, constP_str, eq_ss, get0, w_nou], fun _ => by simp only [e_locV, locV_some, isU_tv, Bool.false_eq_true, if_false, List.getElem?_cons_zero, List.getElem?_cons_succ, List.set_cons_zero, List.set_cons_succ]⟩]
  have hsm : small ((t.nodes.filter fun x => x.k == 2).map tv).length = true := decide_eq_true hlen
  simp only [if_true, e_nil, lockV_lst, unlk_ok, box_0, val_list, bind_ok, k_comp2, k_bi, k_cons1, k_cons2, hsm]
  rw [len_lst _ _ hlen]
  simp only [if_true, List.take_length, bind_ok, k_ret, k_seq, k_seq_r, fin_v, frz_int, List.length_map, nn_nodes]

theorem cutF_tail (σ : AH) (x : PV) (l : List PV) (h : l.length < 1000) : cutF σ (.tup (x :: l)) (.int 1) = some (.v (.tup l)) := by
  show (if small (x :: l).length && decide (1 ≤ 1) && decide (1 ≤ (x :: l).length) then some (Out.v (.tup (((x :: l).take 1000000).drop 1))) else none) = _
  have h1 : small (x :: l).length = true := decide_eq_true (by rw [List.length_cons]; exact om72 h)
  rw [List.take_of_length_le (by rw [List.length_cons]; exact om72 h), h1]
  simp
theorem k0_kids {t : T} (h : (t.k == 0) = true) : t.kids = [] := by rcases t with _ | _ | _ | ⟨⟨⟩, _, _⟩ | _ | _ <;> first | rfl | cases h
theorem k1_kids {t : T} (h : (t.k == 1) = true) : t.kids = [] := by rcases t with _ | _ | _ | ⟨⟨⟩, _, _⟩ | _ | _ <;> first | rfl | cases h
theorem k5_kids {t : T} (h : (t.k == 5) = true) : ∃ a n, t = .pow a n := by rcases t with _ | _ | _ | ⟨⟨⟩, _, _⟩ | _ | _ <;> first | exact ⟨_, _, rfl⟩ | cases h
theorem cut_tail (σ : AH) {t : T} (h0 : (t.k == 0) = false) (h1 : (t.k == 1) = false) (h5 : (t.k == 5) = false) : cutF σ (tv t) (.int 1) = some (.v (.tup (t.kids.map tv))) := by
  rcases t with _ | _ | _ | ⟨o, a, b⟩ | _ | ⟨a, b, c, d⟩
  · cases h1
  · exact cutF_tail σ _ [] (by decide)
  · cases h0
  · exact cutF_tail σ _ [tv a, tv b] (by simp)
  · cases h5
  · exact cutF_tail σ _ [tv a, tv b, tv c, tv d] (by simp)
theorem run_lparts {t : T} (hp : t.pure) (d : Nat) (σ : AH) : callD G (d + 1) "_law_parts" [tv t] σ = .ok (.lst (t.kids.map tv)) σ := by
  have h2 : pureVs (t.kids.map tv) = true := pureVs_map fun x hx => tv_pure (kids_pure hp x hx)
  have h1 : (t.kids.map tv).length ≤ 1000000 := by rw [List.length_map]; have := kids_len t; exact om45 this
  have h0 : pureVs [] = true := rfl
  rw [callD_s fn_lparts]
  cases hk0 : (t.k == 0) with
  | true => rw [k0_kids hk0]; simp only [runFn, List.length_cons, List.length_nil, Nat.reduceAdd, if_true, Nat.sub_self, List.replicate_zero, List.append_nil, e_const, e_locV, locV_some, isU_tv, e_or, e_cmp, e_lst, e_idx, e_nil, e_or2, x_ret, x_ite, x_cons, Bool.false_eq_true, if_false, box_0, val_list, Nat.pred, List.take_length, bind_ok, k_cmp1, k_cmp2, k_lst, k_idx1, k_idx2, k_or, k_or_t, k_ret, k_if, k_if_t, k_seq, k_seq_r, List.getElem?_cons_zero, fin_v, okB_some, truth_bool, constP_int, constP_str, eq_ss, Flw.out, F_law_parts, get0, w_is, hk0, frz_lst h0, List.map_nil]
  | false =>
    cases hk1 : (t.k == 1) with
    | true => rw [k1_kids hk1]; simp only [runFn, List.length_cons, List.length_nil, Nat.reduceAdd, if_true, Nat.sub_self, List.replicate_zero, List.append_nil, e_const, e_locV, locV_some, isU_tv, e_or, e_cmp, e_lst, e_idx, e_nil, e_or1, e_or2, x_ret, x_ite, x_cons, Bool.false_eq_true, if_false, box_0, val_list, Nat.pred, List.take_length, bind_ok, k_cmp1, k_cmp2, k_lst, k_idx1, k_idx2, k_or, k_or_f, k_ret, k_if, k_if_t, k_seq, k_seq_r, List.getElem?_cons_zero, fin_v, okB_some, truth_bool, constP_int, constP_str, eq_ss, Flw.out, F_law_parts, get0, w_is, w_inp, hk0, hk1, frz_lst h0, List.map_nil]
    | false =>
      cases hk5 : (t.k == 5) with
      | true =>
        obtain ⟨a, n, rfl⟩ := k5_kids hk5
        have e4 : getAt σ (tv (.pow a n)) (.int 1) = some (.v (tv a)) := rfl
        have h3 : pureVs [tv a] = true := h2
        simp only [runFn, List.length_cons, List.length_nil, Nat.reduceAdd, if_true, Nat.sub_self, List.replicate_zero, List.append_nil, e_const, e_locV, locV_some, isU_tv, e_or, e_cmp, e_lst, e_idx, e_nil, e_cons, e_or1, e_or2, x_ret, x_ite, x_nil, x_cons, Bool.false_eq_true, if_false, box_0, val_list, Nat.pred, List.take_length, bind_ok, k_cmp1, k_cmp2, k_lst, k_idx1, k_idx2, k_cons1, k_cons2, k_or, k_or_f, k_ret, k_if, k_if_t, k_if_f, k_seq, k_seq_n, k_seq_r, List.getElem?_cons_zero, fin_v, okB_some, truth_bool, constP_int, constP_str, eq_ss, Flw.out, F_law_parts, get0, w_is, w_inp, w_pow, hk0, hk1, hk5, e4, frz_lst h3, T.kids, List.map_cons, List.map_nil]
      | false => simp only [runFn, List.length_cons, List.length_nil, Nat.reduceAdd, if_true, Nat.sub_self, List.replicate_zero, List.append_nil, e_const, e_locV, locV_some, isU_tv, e_or, e_cmp, e_idx, e_bi, e_nil, e_cons, e_or1, e_or2, x_ret, x_ite, x_nil, x_cons, Bool.false_eq_true, if_false, val_list, List.take_length, bind_ok, k_cmp1, k_cmp2, k_idx1, k_idx2, k_bi, k_cons1, k_cons2, k_or, k_or_f, k_ret, k_if, k_if_f, k_seq, k_seq_n, k_seq_r, List.getElem?_cons_zero, fin_v, fin_f0, okB_some, truth_bool, constP_int, constP_str, eq_ss, Flw.out, e_sliceF, k_slF1, k_slF2, F_law_parts, get0, w_is, w_inp, w_pow, hk0, hk1, hk5, cut_tail σ hk0 hk1 hk5, list_tup h1, frz_lst h2]

theorem intsOf_map (l : List Int) : intsOf (l.map .int) = some l := by
  induction l with
  | nil => rfl
  | cons x l ih => show (some x).bind (fun x => (intsOf (l.map .int)).map (x :: ·)) = _; rw [ih]; rfl
theorem sum_lst (σ : AH) (l : List Int) (h : l.length ≤ 1000000) : biP σ .sum [.lst (l.map .int)] = some (.v (.int (l.foldl (· + ·) 0))) := by
  show (intsOf (l.map .int)).bind _ = _
  rw [intsOf_map]
  exact if_pos (decide_eq_true h)
theorem run_lnoughts (t : T) : ∀ (d : Nat) (σ : AH), t.pure → t.ht ≤ d → callD G (d + 1) "_law_noughts" [tv t] σ = .ok (.int t.nn) σ := by
  induction t using T.byKids with | h t ih => ?_
  intro d σ hp hd
  obtain ⟨e, rfl⟩ : ∃ e, d = e + 1 := ⟨d - 1, by have := ht_pos t; exact om49 hd this⟩
  have e0 := get0 σ t
  have e1 := w_nou t
  have h1 := run_lparts hp e σ
  rw [callD_s fn_lnoughts]
  simp only [runFn, List.length_cons, List.length_nil, Nat.reduceAdd, Nat.reduceSub, if_true, List.replicate_succ, List.replicate, List.nil_append, List.cons_append, e_const, e_locV, locV_some, isU_tv, e_cmp, e_idx, x_ite, x_cons, Bool.false_eq_true, if_false, bind_ok, k_cmp1, k_cmp2, k_idx1, k_idx2, k_if, List.getElem?_cons_zero, fin_v, okB_some, truth_bool, constP_int, constP_str, eq_ss, Flw.out, F_law_noughts, e0, e1]
  cases hk : (t.k == 2) with
  | true =>
    simp only [if_true, e_const, x_ret, x_cons, List.take_length, bind_ok, k_ret, k_if_t, k_seq, k_seq_r, constP_int, frz_int]
    cases t with
    | nou => rfl
    | bin o a b => cases o <;> cases hk
    | _ => cases hk
  | false =>
    simp only [e_locV, locV_some, isU_tv, e_comp, e_call, e_bi, e_nil, e_cons, x_ret, x_nil, x_cons, Bool.false_eq_true, if_false, items_lst, lkV_lst, lockV_lst, Nat.pred, bind_ok, k_comp1, k_compI, k_call, k_cons1, k_cons2, k_if_f, k_seq, k_seq_n, List.getElem?_cons_zero, List.set_cons_zero, List.set_cons_succ, kill, List.foldl_cons, List.foldl_nil, tgtSlots, h1]
    rw [compL_pure (σ := σ) tv (fun _ => true) (fun x => .int x.nn) t.kids fun x hx => ⟨_, rfl, by simp only [e_const, List.set_cons_zero, List.set_cons_succ, constP_bool], fun _ => by
      simp only [e_locV, locV_some, isU_tv, e_call, e_nil, e_cons, Bool.false_eq_true, if_false, bind_ok, k_call, k_cons1, k_cons2, List.getElem?_cons_zero, List.getElem?_cons_succ, List.set_cons_zero, List.set_cons_succ]
      exact ih x hx e σ (kids_pure hp x hx) (by have := kids_ht hx; exact om47 hd this)⟩]
    have hl : (t.kids.map fun x => (x.nn : Int)).length ≤ 1000000 := by rw [List.length_map]; have := kids_len t; exact om45 this
    have e2 : ((t.kids.filter fun _ => true).map fun x => PV.int x.nn) = (t.kids.map fun x => (x.nn : Int)).map .int := by rw [List.filter_eq_self.mpr (fun _ _ => rfl), List.map_map]; rfl
    rw [e2]
    have hsm : small ((t.kids.map fun x => (x.nn : Int)).map PV.int).length = true := decide_eq_true (by rw [List.length_map]; exact hl)
    simp only [if_true, e_nil, lockV_lst, unlk_ok, box_0, val_list, List.take_length, bind_ok, k_comp2, k_bi, k_cons1, k_cons2, k_ret, k_seq, k_seq_r, fin_v, hsm, sum_lst _ _ hl, frz_int]
    have e3 : (t.kids.map fun x => (x.nn : Int)).foldl (· + ·) 0 = (t.nn : Int) := by
      cases t with
      | nou => cases hk
      | inp _ => rfl
      | is _ _ => rfl
      | bin o a b => simp [T.kids, T.nn]
      | pow a n => simp [T.kids, T.nn]
      | less a b c d => simp [T.kids, T.nn]; exact om71
    rw [e3]
end Mine

set_option autoImplicit false
set_option maxRecDepth 100000
set_option linter.unusedSimpArgs false
set_option linter.unusedVariables false
namespace Mine
open PySem
/-! ## first met -/
noncomputable def dd (l : List Str) : List Str := l.foldl stepS []
theorem stepS_mem {acc : List Str} {w x : Str} : x ∈ stepS acc w ↔ x ∈ acc ∨ x = w := by
  unfold stepS
  split
  · rename_i h
    exact ⟨.inl, fun q => q.elim id fun e => e ▸ h⟩
  · simp
theorem stepS_nodup {acc : List Str} {w : Str} (h : acc.Nodup) : (stepS acc w).Nodup := by
  unfold stepS
  split
  · exact h
  · rename_i q
    rw [List.nodup_append]
    exact ⟨h, by simp, fun a ha b hb => by rw [List.mem_singleton.mp hb]; rintro rfl; exact q ha⟩
theorem dd_mem' : ∀ (l acc : List Str) {x : Str}, x ∈ l.foldl stepS acc ↔ x ∈ acc ∨ x ∈ l
  | [], acc, x => by simp
  | w :: l, acc, x => by
    rw [List.foldl_cons, dd_mem' l (stepS acc w), stepS_mem, List.mem_cons]
    constructor
    · rintro ((h | h) | h)
      · exact .inl h
      · exact .inr (.inl h)
      · exact .inr (.inr h)
    · rintro (h | h | h)
      · exact .inl (.inl h)
      · exact .inl (.inr h)
      · exact .inr h
theorem dd_nodup' : ∀ (l acc : List Str), acc.Nodup → (l.foldl stepS acc).Nodup
  | [], acc, h => h
  | w :: l, acc, h => dd_nodup' l _ (stepS_nodup h)
theorem dd_mem {l : List Str} {x : Str} : x ∈ dd l ↔ x ∈ l := by unfold dd; rw [dd_mem']; simp
theorem dd_nodup (l : List Str) : (dd l).Nodup := dd_nodup' l [] (by simp)
theorem dd_len' : ∀ (l acc : List Str), (l.foldl stepS acc).length ≤ acc.length + l.length
  | [], acc => Nat.le_refl _
  | x :: l, acc => by
    have h1 := dd_len' l (stepS acc x)
    have h2 : (stepS acc x).length ≤ acc.length + 1 := by unfold stepS; split <;> simp
    rw [List.foldl_cons, List.length_cons]; exact om80 h1 h2
/-- the same members, sorted: the same list -/
theorem sorted_eq : ∀ {l l' : List Str}, l.Pairwise (fun a b => strLt a b = true) → l'.Pairwise (fun a b => strLt a b = true) → (∀ x, x ∈ l ↔ x ∈ l') → l = l'
  | [], [], _, _, _ => rfl
  | [], y :: l', _, _, h => absurd ((h y).mpr List.mem_cons_self) (by simp)
  | x :: l, [], _, _, h => absurd ((h x).mp List.mem_cons_self) (by simp)
  | x :: l, y :: l', h1, h2, h => by
    rw [List.pairwise_cons] at h1 h2
    have irr : ∀ a b, strLt a b = true → strLt b a = true → False := fun a b p q => by have := strLt_asymm p; rw [this] at q; cases q
    have hxy : x = y := by
      rcases List.mem_cons.mp ((h x).mp List.mem_cons_self) with e | e
      · exact e
      · rcases List.mem_cons.mp ((h y).mpr List.mem_cons_self) with e' | e'
        · exact e'.symm
        · exact (irr _ _ (h2.1 x e) (h1.1 y e')).elim
    subst hxy
    refine congrArg (x :: ·) (sorted_eq h1.2 h2.2 fun z => ?_)
    constructor
    · intro hz
      rcases List.mem_cons.mp ((h z).mp (List.mem_cons_of_mem _ hz)) with e | e
      · subst e; exact (irr _ _ (h1.1 z hz) (h1.1 z hz)).elim
      · exact e
    · intro hz
      rcases List.mem_cons.mp ((h z).mpr (List.mem_cons_of_mem _ hz)) with e | e
      · subst e; exact (irr _ _ (h2.1 z hz) (h2.1 z hz)).elim
      · exact e
theorem sort_dd_congr {l l' : List Str} (h : ∀ x, x ∈ l ↔ x ∈ l') : sortS (dd l) = sortS (dd l') :=
  sorted_eq (sortS_nodup (dd_nodup l)) (sortS_nodup (dd_nodup l')) fun x => by
    rw [(sortS_perm _).mem_iff, (sortS_perm _).mem_iff, dd_mem, dd_mem]; exact h x

/-! ## inputs -/
noncomputable def T.name : T → Option Str
  | .inp w => some w
  | _ => none
noncomputable def T.inps (t : T) : List Str := t.nodes.filterMap T.name
noncomputable def IN (t : T) : List Str := sortS (dd t.inps)
theorem IN_mem {t : T} {x : Str} : x ∈ IN t ↔ x ∈ t.inps := by unfold IN; rw [(sortS_perm _).mem_iff, dd_mem]
theorem IN_nodup (t : T) : (IN t).Nodup := (sortS_perm _).symm.nodup (dd_nodup _)
theorem IN_len {t : T} {ws : List Str} (h : ∀ x ∈ t.inps, x ∈ ws) : (IN t).length ≤ ws.length := mem_of_nodup_le (IN_nodup t) fun x hx => h x (IN_mem.mp hx)
theorem inps_kids {t : T} (h : (t.k == 1) = false) : t.inps = t.kids.flatMap T.inps := by
  unfold T.inps
  rw [nodes_eq, List.filterMap_cons]
  have hn : t.name = none := by rcases t with _ | _ | _ | ⟨⟨⟩, _, _⟩ | _ | _ <;> first | rfl | cases h
  rw [hn]
  show (t.kids.flatMap T.nodes).filterMap T.name = _
  induction t.kids with
  | nil => rfl
  | cons x l ih => rw [List.flatMap_cons, List.filterMap_append, List.flatMap_cons, ih]
theorem k1_inp {t : T} (h : (t.k == 1) = true) : ∃ w, t = .inp w := by rcases t with _ | _ | _ | ⟨⟨⟩, _, _⟩ | _ | _ <;> first | exact ⟨_, rfl⟩ | cases h
theorem name_none {t : T} (h : (t.k == 1) = false) : t.name = none := by rcases t with _ | _ | _ | ⟨⟨⟩, _, _⟩ | _ | _ <;> first | rfl | cases h

noncomputable def putAll {α : Type} (v : Str → α) (ws : List Str) (D : List (Str × α)) : List (Str × α) := ws.foldl (fun D w => dput D w (v w)) D
theorem putAll_keys {α : Type} (v : Str → α) : ∀ (ws : List Str) (D : List (Str × α)), (putAll v ws D).map (·.1) = ws.foldl stepS (D.map (·.1))
  | [], D => rfl
  | w :: ws, D => by
    show (putAll v ws (dput D w (v w))).map (·.1) = _
    rw [putAll_keys v ws, List.foldl_cons]
    congr 1
    unfold stepS
    split
    · rename_i h; exact dput_keys_hit h
    · rename_i h; rw [dput_new h, List.map_append]; rfl
theorem putAll_snoc {α : Type} (v : Str → α) (l : List Str) (w : Str) (D : List (Str × α)) : putAll v (l ++ [w]) D = dput (putAll v l D) w (v w) := by simp [putAll]
theorem sorted_d {σ : AH} {i : Nat} {b : Bool} {L : List (Str × PV)} (h : σ[i]? = some (.dict b L)) (hl : (L.map (·.1)).length < sortMost) : biP σ .sorted [.ref i] = some (.f (.list ((sortS (L.map (·.1))).map .str))) := by
  show (sortD (deref σ (.ref i))).bind _ = _
  rw [deref_d h]
  exact if_pos hl
theorem set_dP {σ : AH} {D : List (Str × PV)} (hl : D.length ≤ 1000000) (k : Str) (v : PV) : setAt (σ ++ [AObj.dict false D]) (.ref σ.length) (.str k) v = some (σ ++ [AObj.dict false (dput D k v)]) := by
  show (openD (σ ++ [AObj.dict false D]) σ.length).bind _ = _
  rw [openD_of get_snoc]
  exact (if_pos (decide_eq_true hl)).trans (by rw [set_snoc])
theorem run_inputs (t : T) (d : Nat) (σ : AH) (hp : t.pure) (hs : t.sz ≤ 1000) (hd : t.ht ≤ d) (hl : (dd t.inps).length < sortMost) : callD G (d + 2) "inputs" [tv t] σ = .ok (.lst ((IN t).map .str)) σ := by
  rw [callD_s fn_inputs]
  simp only [runFn, List.length_cons, List.length_nil, Nat.reduceAdd, Nat.reduceSub, if_true, List.replicate_succ, List.replicate, List.nil_append, List.cons_append, e_locV, locV_some, isU_tv, e_edict, e_call, e_nil, e_cons, x_assign, x_for, x_cons, Bool.false_eq_true, if_false, box_1, obj_dict, bind_ok, k_call, k_cons1, k_cons2, k_assign, k_seq, k_seq_n, List.getElem?_cons_zero, List.set_cons_zero, List.set_cons_succ, Flw.out, F_inputs]
  rw [run_within t d _ hp hs hd]
  simp only [items_lst, lkV_lst, lockV_lst, bind_ok, k_for, k_forI]
  have step := forL_list (c := ⟨G.const, callD G (d + 1), G.atr⟩) (body := (.cons (.ite (.cmp .Eq (.idx (.loc 2) (.const (.int 0))) (.const (.str "input"))) (.cons (.setitem (.loc 1) (.idx (.loc 2) (.const (.int 1))) 0 (.const (.bool true))) .nil) .nil) .nil)) (t := .one 2) (ks := [2]) tv (fun done => σ ++ [.dict false (putAll (fun _ => PV.bool true) (done.filterMap T.name) [])]) (fun _ => [tv t, .ref σ.length, .undef]) t.nodes ?_ t.nodes [] [tv t, .ref σ.length, .undef] rfl rfl
  · rw [show (σ ++ [AObj.dict false []]) = (fun done : List T => σ ++ [AObj.dict false (putAll (fun _ => PV.bool true) (done.filterMap T.name) [])]) [] from rfl, step]
    have hk : (putAll (fun _ => PV.bool true) (t.nodes.filterMap T.name) []).map (·.1) = dd t.inps := putAll_keys _ _ _
    simp only [e_locV, locV_some, isU_ref, e_bi, e_nil, e_cons, x_ret, x_cons, Bool.false_eq_true, if_false, lockV_lst, unlk_ok, bind_ok, k_bi, k_cons1, k_cons2, k_seq, k_seq_n, List.getElem?_cons_zero, List.getElem?_cons_succ]
    rw [sorted_d get_snoc (by rw [hk]; exact hl), hk]
    simp only [if_true, val_list, List.take_left, bind_ok, k_ret, k_seq, k_seq_r, fin_f0]
    rw [frz_lst (pureVs_map fun _ _ => rfl)]; rfl
  · intro done x rest he
    refine ⟨_, [tv t, .ref σ.length, tv x], rfl, ?_, rfl⟩
    have hlen : (putAll (fun _ => PV.bool true) (done.filterMap T.name) []).length ≤ 1000000 := by
      have h1 := putAll_keys (fun _ => PV.bool true) (done.filterMap T.name) []
      have h2 := congrArg List.length h1
      rw [List.length_map] at h2
      rw [h2]
      have h3 := dd_len' (done.filterMap T.name) []
      have h4 : (done.filterMap T.name).length ≤ done.length := List.length_filterMap_le ..
      have h5 : done.length ≤ t.nodes.length := by rw [← he, List.length_append]; exact om79
      rw [nodes_len] at h5
      simp at h3 ⊢
      exact om78 hs h4 h5 h3
    cases hk : (x.k == 1) with
    | true =>
      obtain ⟨w, rfl⟩ := k1_inp hk
      have g1 : ∀ σ', getAt σ' (tv (.inp w)) (.int 1) = some (.v (.str w)) := fun _ => rfl
      simp only [e_const, e_locV, locV_some, isU_ref, isU_tv, e_cmp, e_idx, x_setitem, x_ite, x_nil, x_cons, Bool.false_eq_true, if_false, bind_ok, k_cmp1, k_cmp2, k_idx1, k_idx2, k_set1, k_set2, k_set3, k_set4, k_if, k_if_t, k_seq, k_seq_n, List.getElem?_cons_zero, List.getElem?_cons_succ, List.set_cons_zero, List.set_cons_succ, fin_v, okB_some, truth_bool, constP_int, constP_str, constP_bool, eq_ss, get0, w_inp, hk, g1, set_dP hlen, List.filterMap_append, List.filterMap_cons, List.filterMap_nil, T.name, putAll_snoc]
    | false =>
      simp only [List.append_nil, e_const, e_locV, locV_some, isU_tv, e_cmp, e_idx, x_ite, x_nil, x_cons, Bool.false_eq_true, if_false, bind_ok, k_cmp1, k_cmp2, k_idx1, k_idx2, k_if, k_if_f, k_seq, k_seq_n, List.getElem?_cons_zero, List.getElem?_cons_succ, List.set_cons_zero, List.set_cons_succ, fin_v, okB_some, truth_bool, constP_int, constP_str, eq_ss, get0, w_inp, hk, List.filterMap_append, List.filterMap_cons, List.filterMap_nil, name_none hk, List.append_nil]

theorem add_ll (σ : AH) (a b : List PV) (h : a.length + b.length ≤ 1000000) : binop σ .Add (.lst a) (.lst b) = some (.f (.list (a ++ b))) := if_pos h
theorem strsOf_map (l : List Str) : strsOf (l.map .str) = some l := by
  induction l with
  | nil => rfl
  | cons x l ih => show (some x).bind (fun x => (strsOf (l.map .str)).map (x :: ·)) = _; rw [ih]; rfl
theorem sset_lst (σ : AH) (l : List Str) (h : l.length < sortMost) : biP σ .sortedSet [.lst (l.map .str)] = some (.f (.list ((sortS (dd l)).map .str))) := by
  show (strsOf (l.map .str)).bind _ = _
  rw [strsOf_map]
  exact if_pos h
theorem flatIN_len {ws : List Str} : ∀ {l : List T}, (∀ t ∈ l, ∀ x ∈ t.inps, x ∈ ws) → (l.flatMap IN).length ≤ l.length * ws.length
  | [], _ => by simp
  | t :: l, h => by
    have h1 := IN_len (h t List.mem_cons_self)
    have h2 := flatIN_len (l := l) fun t ht => h t (List.mem_cons_of_mem _ ht)
    rw [List.flatMap_cons, List.length_append, List.length_cons, Nat.succ_mul]; exact om77 h1 h2
theorem kids_inps {t x : T} (hx : x ∈ t.kids) {w : Str} (hw : w ∈ x.inps) : w ∈ t.inps := by
  have hk : (t.k == 1) = false := by rcases t with _ | _ | _ | ⟨⟨⟩, _, _⟩ | _ | _ <;> first | rfl | cases hx
  rw [inps_kids hk]
  exact List.mem_flatMap.mpr ⟨x, hx, hw⟩
theorem run_linputs {ws : List Str} (h4 : ws.length ≤ 4) (t : T) : ∀ (d : Nat) (σ : AH), t.pure → t.ht ≤ d → (∀ x ∈ t.inps, x ∈ ws) → callD G (d + 1) "_law_inputs" [tv t] σ = .ok (.lst ((IN t).map .str)) σ := by
  induction t using T.byKids with | h t ih => ?_
  intro d σ hp hd hw
  obtain ⟨e, rfl⟩ : ∃ e, d = e + 1 := ⟨d - 1, by have := ht_pos t; exact om49 hd this⟩
  rw [callD_s fn_linputs]
  cases hk : (t.k == 1) with
  | true =>
    obtain ⟨w, rfl⟩ := k1_inp hk
    have g1 : ∀ σ', getAt σ' (tv (.inp w)) (.int 1) = some (.v (.str w)) := fun _ => rfl
    have hin : IN (.inp w) = [w] := by
      show sortS [w] = [w]
      exact sortS_fix (by simp)
    simp only [runFn, List.length_cons, List.length_nil, Nat.reduceAdd, Nat.reduceSub, if_true, List.replicate_succ, List.replicate, List.nil_append, List.cons_append, e_const, e_locV, locV_some, isU_tv, e_cmp, e_lst, e_idx, e_nil, e_cons, x_ret, x_ite, x_cons, Bool.false_eq_true, if_false, box_0, val_list, Nat.pred, List.take_length, bind_ok, k_cmp1, k_cmp2, k_lst, k_idx1, k_idx2, k_cons1, k_cons2, k_ret, k_if, k_if_t, k_seq, k_seq_r, List.getElem?_cons_zero, fin_v, okB_some, truth_bool, constP_int, constP_str, eq_ss, Flw.out, F_law_inputs, get0, w_inp, hk, g1, hin, List.map_cons, List.map_nil, frz_lst (show pureVs [PV.str w] = true from rfl)]
  | false =>
    simp only [runFn, List.length_cons, List.length_nil, Nat.reduceAdd, Nat.reduceSub, if_true, List.replicate_succ, List.replicate, List.nil_append, List.cons_append, e_const, e_locV, locV_some, isU_tv, e_cmp, e_lst, e_idx, e_call, e_nil, e_cons, x_assign, x_ite, x_for, x_nil, x_cons, Bool.false_eq_true, if_false, box_0, val_list, Nat.pred, bind_ok, k_cmp1, k_cmp2, k_lst, k_idx1, k_idx2, k_call, k_cons1, k_cons2, k_assign, k_if, k_if_f, k_seq, k_seq_n, List.getElem?_cons_zero, List.set_cons_zero, List.set_cons_succ, fin_v, okB_some, truth_bool, constP_int, constP_str, eq_ss, Flw.out, F_law_inputs, get0, w_inp, hk]
    rw [run_lparts hp]
    simp only [items_lst, lkV_lst, lockV_lst, bind_ok, k_for, k_forI]
    have hkl := kids_len t
    have hfl : ∀ (done : List T), (∃ rest, done ++ rest = t.kids) → (done.flatMap IN).length ≤ 16 := fun done ⟨rest, he⟩ => by
      have h1 := flatIN_len (ws := ws) (l := done) fun x hx w hwx => hw w (kids_inps (he ▸ List.mem_append_left _ hx) hwx)
      have h2 : done.length ≤ 4 := by have := congrArg List.length he; rw [List.length_append] at this; exact om76 hkl this
      exact Nat.le_trans h1 (Nat.mul_le_mul h2 h4)
    have step := forL_list (c := ⟨G.const, callD G (e + 1), G.atr⟩) (body := (.cons (.assign 1 0 (.bin .Add (.loc 1) (.call "_law_inputs" (.cons (.loc 2) .nil)))) .nil)) (t := .one 2) (ks := [2]) tv (fun _ => σ) (fun done => [tv t, .lst ((done.flatMap IN).map .str), .undef]) t.kids ?_ t.kids [] [tv t, .lst [], .undef] rfl rfl
    · rw [step]
      simp only [e_locV, locV_some, isU_lst, e_bi, e_nil, e_cons, x_ret, x_cons, Bool.false_eq_true, if_false, lockV_lst, unlk_ok, bind_ok, k_bi, k_cons1, k_cons2, k_seq, k_seq_n, List.getElem?_cons_zero, List.getElem?_cons_succ]
      rw [sset_lst _ _ (Nat.lt_of_le_of_lt (hfl t.kids ⟨[], List.append_nil _⟩) (by decide))]
      simp only [if_true, val_list, List.take_length, bind_ok, k_ret, k_seq, k_seq_r, fin_f0]
      rw [frz_lst (pureVs_map fun _ _ => rfl)]
      have : sortS (dd (t.kids.flatMap IN)) = IN t := by
        unfold IN
        rw [inps_kids hk]
        exact sort_dd_congr fun x => by
          rw [List.mem_flatMap, List.mem_flatMap]
          exact ⟨fun ⟨y, h1, h2⟩ => ⟨y, h1, IN_mem.mp h2⟩, fun ⟨y, h1, h2⟩ => ⟨y, h1, IN_mem.mpr h2⟩⟩
      rw [this]
    · intro done x rest he
      have hx : x ∈ t.kids := he ▸ List.mem_append_right _ List.mem_cons_self
      have h1 := ih x hx e σ (kids_pure hp x hx) (by have := kids_ht hx; exact om47 hd this) fun w hwx => hw w (kids_inps hx hwx)
      have h2 := hfl (done ++ [x]) ⟨rest, by rw [List.append_assoc]; exact he⟩
      rw [List.flatMap_append, List.length_append, List.flatMap_cons, List.flatMap_nil, List.append_nil] at h2
      refine ⟨_, [tv t, .lst (((done ++ [x]).flatMap IN).map .str), tv x], rfl, ?_, rfl⟩
      simp only [e_locV, locV_some, isU_lst, isU_tv, e_bin, e_call, e_nil, e_cons, x_assign, x_cons, Bool.false_eq_true, if_false, bind_ok, k_bin1, k_bin2, k_call, k_cons1, k_cons2, List.getElem?_cons_zero, List.getElem?_cons_succ, List.set_cons_zero, List.set_cons_succ, h1]
      rw [add_ll _ _ _ (by rw [List.length_map, List.length_map]; exact om75 h2)]
      simp only [List.append_nil, x_nil, val_list, bind_ok, k_assign, k_seq, k_seq_n, List.set_cons_zero, List.set_cons_succ, fin_f0, List.flatMap_append, List.flatMap_cons, List.flatMap_nil, List.append_nil, List.map_append]
end Mine

set_option autoImplicit false
set_option maxRecDepth 100000
set_option linter.unusedSimpArgs false
set_option linter.unusedVariables false
namespace Mine
open PySem
theorem fn_times : G.fn "times" = some F_times := by rfl
theorem fn_over : G.fn "over" = some F_over := by rfl
theorem fn_power : G.fn "power" = some F_power := by rfl
theorem fn_ltimes : G.fn "_law_times" = some F_law_times := by rfl
theorem run_times {a b : DI} (ha : (a.map (·.1)).Nodup) (hl : a.length + b.length ≤ 1000000) (hm : ∀ kv ∈ b, IntMulOk kv.2 1) (hs : (putF a b 1).length < sortMost) (d : Nat) (σ : AH) :
    callD G (d + 2) "times" [mv a, mv b] σ = .ok (mv (madeL (putF a b 1))) σ := by
  have e1 := dict_mv (σ := σ) ha (by exact om95 hl)
  have e2 := run_put (n := 1) hm d (σ := σ ++ [.dict false (dv a)]) (i := σ.length) (D := a) get_snoc hl
  rw [set_snoc] at e2
  have e3 := run_mod (σ := σ ++ [.dict false (dv (putF a b 1))]) (i := σ.length) get_snoc hs d
  rw [callD_s fn_times]
  simp only [runFn, List.length_cons, List.length_nil, Nat.reduceAdd, Nat.reduceSub, if_true, List.replicate_succ, List.replicate, List.nil_append, List.cons_append, e_loc, e_bi, e_nil, e_cons, x_assign, x_cons, Bool.false_eq_true, if_false, bind_ok, k_bi, k_cons1, k_cons2, List.getElem?_cons_zero, Flw.out, F_times, mv] at e1 e2 e3 ⊢
  rw [e1]
  simp only [e_const, e_loc, e_call, e_nil, e_cons, x_expr, x_cons, bind_ok, k_call, k_cons1, k_cons2, k_assign, k_seq, k_seq_n, List.getElem?_cons_zero, List.getElem?_cons_succ, List.set_cons_zero, List.set_cons_succ, fin_f1, constP_int, Frs.obj]
  rw [e2]
  simp only [e_loc, e_call, e_nil, e_cons, x_ret, x_cons, bind_ok, k_call, k_cons1, k_cons2, k_expr, k_seq, k_seq_n, List.getElem?_cons_zero, List.getElem?_cons_succ]
  rw [e3]
  simp only [if_true, List.take_left, bind_ok, k_ret, k_seq, k_seq_r, List.take_left, if_true]
  have h5 := mv_pure (madeL (putF a b 1))
  unfold mv at h5
  rw [frz_pure h5]
theorem run_over {a b : DI} (ha : (a.map (·.1)).Nodup) (hl : a.length + b.length ≤ 1000000) (hm : ∀ kv ∈ b, IntMulOk kv.2 (-1)) (hs : (putF a b (-1)).length < sortMost) (d : Nat) (σ : AH) :
    callD G (d + 2) "over" [mv a, mv b] σ = .ok (mv (madeL (putF a b (-1)))) σ := by
  have e1 := dict_mv (σ := σ) ha (by exact om95 hl)
  have e2 := run_put (n := -1) hm d (σ := σ ++ [.dict false (dv a)]) (i := σ.length) (D := a) get_snoc hl
  rw [set_snoc] at e2
  have e3 := run_mod (σ := σ ++ [.dict false (dv (putF a b (-1)))]) (i := σ.length) get_snoc hs d
  rw [callD_s fn_over]
  simp only [runFn, List.length_cons, List.length_nil, Nat.reduceAdd, Nat.reduceSub, if_true, List.replicate_succ, List.replicate, List.nil_append, List.cons_append, e_loc, e_bi, e_nil, e_cons, x_assign, x_cons, Bool.false_eq_true, if_false, bind_ok, k_bi, k_cons1, k_cons2, List.getElem?_cons_zero, Flw.out, F_over, mv] at e1 e2 e3 ⊢
  rw [e1]
  simp only [e_const, e_loc, e_neg, e_call, e_nil, e_cons, x_expr, x_cons, bind_ok, k_neg, k_call, k_cons1, k_cons2, k_assign, k_seq, k_seq_n, List.getElem?_cons_zero, List.getElem?_cons_succ, List.set_cons_zero, List.set_cons_succ, fin_f1, constP_int, Frs.obj]
  rw [e2]
  simp only [e_loc, e_call, e_nil, e_cons, x_ret, x_cons, bind_ok, k_call, k_cons1, k_cons2, k_expr, k_seq, k_seq_n, List.getElem?_cons_zero, List.getElem?_cons_succ]
  rw [e3]
  simp only [if_true, List.take_left, bind_ok, k_ret, k_seq, k_seq_r, List.take_left, if_true]
  have h5 := mv_pure (madeL (putF a b (-1)))
  unfold mv at h5
  rw [frz_pure h5]
theorem run_power {b : DI} {n : Int} (hl : b.length ≤ 1000000) (hm : ∀ kv ∈ b, IntMulOk kv.2 n) (hs : (putF [] b n).length < sortMost) (d : Nat) (σ : AH) :
    callD G (d + 2) "power" [mv b, .int n] σ = .ok (mv (madeL (putF [] b n))) σ := by
  have e2 := run_put (n := n) hm d (σ := σ ++ [.dict false (dv [])]) (i := σ.length) (D := []) get_snoc (by simpa using hl)
  rw [set_snoc] at e2
  have e3 := run_mod (σ := σ ++ [.dict false (dv (putF [] b n))]) (i := σ.length) get_snoc hs d
  rw [callD_s fn_power]
  simp only [runFn, List.length_cons, List.length_nil, Nat.reduceAdd, Nat.reduceSub, if_true, List.replicate_succ, List.replicate, List.nil_append, List.cons_append, e_loc, e_edict, e_call, e_nil, e_cons, x_assign, x_expr, x_cons, Bool.false_eq_true, if_false, box_1, obj_dict, bind_ok, k_call, k_cons1, k_cons2, k_assign, k_seq, k_seq_n, List.getElem?_cons_zero, List.getElem?_cons_succ, List.set_cons_zero, List.set_cons_succ, Flw.out, F_power, mv] at e2 e3 ⊢
  rw [show ([] : List (Str × PV)) = dv [] from rfl, e2]
  simp only [e_loc, e_call, e_nil, e_cons, x_ret, x_cons, bind_ok, k_call, k_cons1, k_cons2, k_expr, k_seq, k_seq_n, List.getElem?_cons_zero, List.getElem?_cons_succ]
  rw [e3]
  simp only [if_true, List.take_left, bind_ok, k_ret, k_seq, k_seq_r, List.take_left, if_true]
  have h5 := mv_pure (madeL (putF [] b n))
  unfold mv at h5
  rw [frz_pure h5]
theorem run_ltimes {a b : DI} {n : Int} (ha : (a.map (·.1)).Nodup) (hl : a.length + b.length ≤ 1000000) (hm : ∀ kv ∈ b, IntMulOk kv.2 n) (hs : (putF a b n).length < sortMost) (d : Nat) (σ : AH) :
    callD G (d + 2) "_law_times" [mv a, mv b, .int n] σ = .ok (mv (madeL (putF a b n))) σ := by
  have e1 := dict_mv (σ := σ) ha (by exact om95 hl)
  have e3 := run_made (σ := σ ++ [.dict false (dv (putF a b n))]) (i := σ.length) get_snoc hs d
  rw [callD_s fn_ltimes]
  simp only [runFn, List.length_cons, List.length_nil, Nat.reduceAdd, Nat.reduceSub, if_true, List.replicate_succ, List.replicate, List.nil_append, List.cons_append, e_loc, e_bi, e_nil, e_cons, x_assign, x_cons, Bool.false_eq_true, if_false, bind_ok, k_bi, k_cons1, k_cons2, List.getElem?_cons_zero, Flw.out, F_law_times, mv] at e1 e3 ⊢
  rw [e1]
  simp only [e_loc, x_for, x_cons, items_tup, lkV_tup, lockV_tup, bind_ok, k_assign, k_for, k_forI, k_seq, k_seq_n, List.getElem?_cons_zero, List.getElem?_cons_succ, List.set_cons_zero, List.set_cons_succ, fin_f1, Frs.obj]
  rw [loop_put _ (n := n) (ρ0 := [mv a, mv b, .int n, .ref σ.length, .undef, .undef]) (i := σ.length) b (D := a) ?_ get_snoc hl rfl]
  · rw [set_snoc]
    simp only [e_loc, e_call, e_nil, e_cons, x_ret, x_cons, lockV_tup, unlk_ok, bind_ok, k_call, k_cons1, k_cons2, k_seq, k_seq_n, List.getElem?_cons_zero, List.getElem?_cons_succ]
    rw [e3]
    simp only [if_true, List.take_left, bind_ok, k_ret, k_seq, k_seq_r, List.take_left, if_true]
    have h5 := mv_pure (madeL (putF a b n))
    unfold mv at h5
    rw [frz_pure h5]
  · intro kv σ' D hkv hD hl'
    refine ⟨_, [mv a, mv b, .int n, .ref σ.length, .str kv.1, .int kv.2], rfl, ?_, rfl⟩
    simp only [e_const, e_loc, e_bin, e_meth, e_nil, e_cons, x_setitem, x_nil, x_cons, bind_ok, k_bin1, k_bin2, k_meth1, k_methI, k_meth2, k_meth3, k_cons1, k_cons2, k_set1, k_set2, k_set3, k_set4, k_seq, k_seq_n, List.getElem?_cons_zero, List.getElem?_cons_succ, List.set_cons_zero, List.set_cons_succ, fin_v, constP_int, add_ii, setAll, isTy_dv hD, BM.ty, get_dvD hD, mul_ii σ' _ _ (hm kv hkv), set_dv hD hl']

/-! ## measures of bounded letters and powers -/
structure MOk (ls : List Str) (B : Nat) (ms : DI) : Prop where
  meas : Meas ms
  keys : ∀ k ∈ ms.map (·.1), k ∈ ls
  bd : ∀ kv ∈ ms, kv.2.natAbs ≤ B
theorem MOk.len {ls : List Str} {B : Nat} {ms : DI} (h : MOk ls B ms) : ms.length ≤ ls.length := by
  have := mem_of_nodup_le h.meas.nodup h.keys
  simpa using this
theorem MOk.mono {ls : List Str} {B B' : Nat} {ms : DI} (h : MOk ls B ms) (hb : B ≤ B') : MOk ls B' ms := ⟨h.meas, h.keys, fun kv q => Nat.le_trans (h.bd kv q) hb⟩
/-- letters: no empty ones, fewer than sortMost -/
structure LOk (ls : List Str) : Prop where
  len : ls.length < sortMost
  ne : ∀ w ∈ ls, w ≠ (⟨#[]⟩ : Str)
theorem put_short {ls : List Str} (hL : LOk ls) {a b : DI} {n : Int} (ha : (a.map (·.1)).Nodup) (hk : ∀ k ∈ a.map (·.1), k ∈ ls) (hb : ∀ k ∈ b.map (·.1), k ∈ ls) : (putF a b n).length < sortMost := by
  have := mem_of_nodup_le (putF_nodup (ms := b) (n := n) ha) (m := ls) (fun x hx => by rcases putF_mem.mp hx with h | h; exact hk x h; exact hb x h)
  rw [List.length_map] at this
  have := hL.len
  exact om94 (by assumption) this
theorem put_ok {ls : List Str} (hL : LOk ls) {A B C : Nat} {a b : DI} {n : Int} (ha : (a.map (·.1)).Nodup) (hk : ∀ k ∈ a.map (·.1), k ∈ ls) (hav : ∀ kv ∈ a, kv.2.natAbs ≤ A) (hb : MOk ls B b) (hC : A + B * n.natAbs ≤ C) : MOk ls C (madeL (putF a b n)) := by
  have hks : ∀ k ∈ (putF a b n).map (·.1), k ∈ ls := fun x hx => by rcases putF_mem.mp hx with h | h; exact hk x h; exact hb.keys x h
  have hv : ∀ k, (val (putF a b n) k).natAbs ≤ C := fun k => by
    rw [putF_val hb.meas.nodup]
    have h1 := val_bd hav k
    have h2 := val_bd hb.bd k
    have h3 : (val b k * n).natAbs ≤ B * n.natAbs := by rw [Int.natAbs_mul]; exact Nat.mul_le_mul_right _ h2
    exact om93 hC h1 h3
  refine ⟨madeL_meas (putF_nodup ha) fun k h => hL.ne k (hks k h), fun k h => ?_, fun kv h => ?_⟩
  · obtain ⟨kv, hkv, rfl⟩ := List.mem_map.mp h
    exact hks _ (madeL_mem hkv).1
  · rw [(madeL_mem h).2.1]; exact hv _
theorem mul_fit {ls : List Str} {B : Nat} {ms : DI} (h : MOk ls B ms) (hB : B ≤ 10 ^ 30) {n : Int} (hn : n.natAbs ≤ 10 ^ 30) : ∀ kv ∈ ms, IntMulOk kv.2 n := fun kv hkv =>
  mulOk_w (Nat.lt_of_le_of_lt (Nat.le_trans (h.bd kv hkv) hB) (Nat.lt_of_lt_of_le (show 10 ^ 30 < 2 ^ 100 by decide +kernel) (Nat.pow_le_pow_right (by decide) (by decide)))) (Nat.lt_of_le_of_lt hn (Nat.lt_of_lt_of_le (show 10 ^ 30 < 2 ^ 100 by decide +kernel) (Nat.pow_le_pow_right (by decide) (by decide))))
/-- the three, of measures of such letters -/
structure Two (ls : List Str) (a b : DI) : Prop where
  a : ∃ A, A ≤ 10 ^ 30 ∧ MOk ls A a
  b : ∃ A, A ≤ 10 ^ 30 ∧ MOk ls A b
theorem sm_le {ls : List Str} (hL : LOk ls) {B : Nat} {a : DI} (h : MOk ls B a) : a.length ≤ 1000 := by
  have := h.len; have := hL.len; have : sortMost ≤ 1000 := by decide
  exact om92 (by assumption) (by assumption) this
theorem Two.times {ls : List Str} (hL : LOk ls) {a b : DI} (h : Two ls a b) (d : Nat) (σ : AH) : callD G (d + 2) "times" [mv a, mv b] σ = .ok (mv (madeL (putF a b 1))) σ := by
  obtain ⟨⟨A, hA, ha⟩, ⟨B, hB, hb⟩⟩ := h
  have := sm_le hL ha; have := sm_le hL hb
  exact run_times ha.meas.nodup (by exact om91 (by assumption) this) (mul_fit hb hB (by decide)) (put_short hL ha.meas.nodup ha.keys hb.keys) d σ
theorem Two.over {ls : List Str} (hL : LOk ls) {a b : DI} (h : Two ls a b) (d : Nat) (σ : AH) : callD G (d + 2) "over" [mv a, mv b] σ = .ok (mv (madeL (putF a b (-1)))) σ := by
  obtain ⟨⟨A, hA, ha⟩, ⟨B, hB, hb⟩⟩ := h
  have := sm_le hL ha; have := sm_le hL hb
  exact run_over ha.meas.nodup (by exact om91 (by assumption) this) (mul_fit hb hB (by decide)) (put_short hL ha.meas.nodup ha.keys hb.keys) d σ
theorem Two.ltimes {ls : List Str} (hL : LOk ls) {a b : DI} (h : Two ls a b) {n : Int} (hn : n.natAbs ≤ 10 ^ 30) (d : Nat) (σ : AH) : callD G (d + 2) "_law_times" [mv a, mv b, .int n] σ = .ok (mv (madeL (putF a b n))) σ := by
  obtain ⟨⟨A, hA, ha⟩, ⟨B, hB, hb⟩⟩ := h
  have := sm_le hL ha; have := sm_le hL hb
  exact run_ltimes ha.meas.nodup (by exact om91 (by assumption) this) (mul_fit hb hB hn) (put_short hL ha.meas.nodup ha.keys hb.keys) d σ
theorem nil_ok (ls : List Str) : MOk ls 0 [] := ⟨⟨.nil, fun _ q => (nomatch q)⟩, fun _ q => (nomatch q), fun _ q => (nomatch q)⟩
theorem pow_run {ls : List Str} (hL : LOk ls) {B : Nat} {b : DI} (hB : B ≤ 10 ^ 30) (hb : MOk ls B b) {n : Int} (hn : n.natAbs ≤ 10 ^ 30) (d : Nat) (σ : AH) : callD G (d + 2) "power" [mv b, .int n] σ = .ok (mv (madeL (putF [] b n))) σ := by
  have := sm_le hL hb
  exact run_power (by exact om4 this) (mul_fit hb hB hn) (put_short hL (by simp) (fun _ q => nomatch q) hb.keys) d σ

/-! ## what a reckoning measures -/
noncomputable def own (k : Nat) : DI := [(("0" : Str) ++ Str.ofString (toString (k : Int)), 1)]
noncomputable def nam (w : Str) : DI := [(("=" : Str) ++ w, 1)]
noncomputable def T.M : T → Nat → DI
  | .is _ m, _ => m
  | .inp w, _ => nam w
  | .nou, k => own k
  | .bin .times a b, k => madeL (putF (a.M k) (b.M (k + a.nn)) 1)
  | .bin .over a b, k => madeL (putF (a.M k) (b.M (k + a.nn)) (-1))
  | .bin .plus a _, k => a.M k
  | .bin .minus a _, k => a.M k
  | .pow a n, k => madeL (putF [] (a.M k) n)
  | .less a b c _, k => c.M (k + a.nn + b.nn)
noncomputable def T.Rw : T → Nat → List DI
  | .bin .times a b, k => a.Rw k ++ b.Rw (k + a.nn)
  | .bin .over a b, k => a.Rw k ++ b.Rw (k + a.nn)
  | .bin .plus a b, k => a.Rw k ++ b.Rw (k + a.nn) ++ [madeL (putF (a.M k) (b.M (k + a.nn)) (-1))]
  | .bin .minus a b, k => a.Rw k ++ b.Rw (k + a.nn) ++ [madeL (putF (a.M k) (b.M (k + a.nn)) (-1))]
  | .pow a _, k => a.Rw k
  | .less a b c d, k => a.Rw k ++ b.Rw (k + a.nn) ++ c.Rw (k + a.nn + b.nn) ++ d.Rw (k + a.nn + b.nn + c.nn) ++ [madeL (putF (a.M k) (b.M (k + a.nn)) (-1))] ++ [madeL (putF (c.M (k + a.nn + b.nn)) (d.M (k + a.nn + b.nn + c.nn)) (-1))]
  | .inp _, _ => []
  | .nou, _ => []
  | .is _ _, _ => []
/-- such a tree as the law makes -/
noncomputable def T.ok (ws ls : List Str) : T → Prop
  | .inp w => w ∈ ws
  | .nou => True
  | .is n m => pureV n = true ∧ MOk ls 20 m
  | .bin _ a b => a.ok ws ls ∧ b.ok ws ls
  | .pow a n => a.ok ws ls ∧ n.natAbs ≤ 4
  | .less a b c d => a.ok ws ls ∧ b.ok ws ls ∧ c.ok ws ls ∧ d.ok ws ls
theorem ok_pure {ws ls : List Str} : ∀ {t : T}, t.ok ws ls → t.pure
  | .inp _, _ => trivial
  | .nou, _ => trivial
  | .is _ _, h => h.1
  | .bin _ a b, h => ⟨ok_pure h.1, ok_pure h.2⟩
  | .pow a _, h => ok_pure (t := a) h.1
  | .less a b c d, h => ⟨ok_pure h.1, ok_pure h.2.1, ok_pure h.2.2.1, ok_pure h.2.2.2⟩
theorem ok_inps {ws ls : List Str} : ∀ {t : T}, t.ok ws ls → ∀ x ∈ t.inps, x ∈ ws
  | .inp w, h => fun x hx => by simp [T.inps, T.nodes, T.name] at hx; subst hx; exact h
  | .nou, _ => fun x hx => by simp [T.inps, T.nodes, T.name] at hx
  | .is _ _, _ => fun x hx => by simp [T.inps, T.nodes, T.name] at hx
  | .bin o a b, h => fun x hx => by
    rw [inps_kids (by cases o <;> rfl)] at hx
    simp only [T.kids, List.flatMap_cons, List.flatMap_nil, List.append_nil, List.mem_append] at hx
    rcases hx with q | q
    · exact ok_inps h.1 x q
    · exact ok_inps h.2 x q
  | .pow a n, h => fun x hx => by
    rw [inps_kids rfl] at hx
    simp only [T.kids, List.flatMap_cons, List.flatMap_nil, List.append_nil] at hx
    exact ok_inps (t := a) h.1 x hx
  | .less a b c d, h => fun x hx => by
    rw [inps_kids rfl] at hx
    simp only [T.kids, List.flatMap_cons, List.flatMap_nil, List.append_nil, List.mem_append] at hx
    rcases hx with q | q | q | q
    · exact ok_inps h.1 x q
    · exact ok_inps h.2.1 x q
    · exact ok_inps h.2.2.1 x q
    · exact ok_inps h.2.2.2 x q
/-- all letters -/
noncomputable def ALet (ws ls : List Str) (N : Nat) : List Str := ls ++ (ws.map fun w => ("=" : Str) ++ w) ++ (List.range N).map fun k : Nat => ("0" : Str) ++ Str.ofString (toString (k : Int))
theorem app_ne {x y : Str} (h : 1 ≤ x.length) : x ++ y ≠ (⟨#[]⟩ : Str) := fun e => by
  have := congrArg Str.length e
  rw [app_len] at this
  have h0 : (⟨#[]⟩ : Str).length = 0 := rfl
  exact (om90 h this h0).elim
theorem one_ok {ls : List Str} {x : Str} (h : x ∈ ls) (hx : x ≠ (⟨#[]⟩ : Str)) : MOk ls 20 [(x, 1)] :=
  ⟨⟨by simp, fun kv q => by rw [List.mem_singleton.mp q]; exact ⟨hx, show (1 : Int) ≠ 0 by decide⟩⟩, fun k q => by simp at q; subst q; exact h, fun kv q => by rw [List.mem_singleton.mp q]; exact (show (1 : Int).natAbs ≤ 20 by decide)⟩
theorem MOk.wide {ls ls' : List Str} {B : Nat} {m : DI} (h : MOk ls B m) (hs : ∀ x ∈ ls, x ∈ ls') : MOk ls' B m := ⟨h.meas, fun k q => hs k (h.keys k q), h.bd⟩
theorem M_ok {ws ls : List Str} {N : Nat} (hL : LOk (ALet ws ls N)) : ∀ (t : T) (k : Nat), t.ok ws ls → k + t.nn ≤ N → MOk (ALet ws ls N) (20 * 4 ^ t.ht) (t.M k)
  | .is n m, k, h, _ => (h.2.wide fun x q => List.mem_append_left _ (List.mem_append_left _ q)).mono (by show 20 ≤ 20 * 4 ^ 1; decide)
  | .inp w, k, h, _ => by
    have hm : (("=" : Str) ++ w) ∈ ALet ws ls N := List.mem_append_left _ (List.mem_append_right _ (List.mem_map.mpr ⟨w, h, rfl⟩))
    exact (one_ok hm (app_ne (by decide))).mono (by show 20 ≤ 20 * 4 ^ 1; decide)
  | .nou, k, h, hk => by
    have hm : (("0" : Str) ++ Str.ofString (toString (k : Int))) ∈ ALet ws ls N := List.mem_append_right _ (List.mem_map.mpr ⟨k, List.mem_range.mpr (show k < N from hk), rfl⟩)
    exact (one_ok hm (app_ne (by decide))).mono (by show 20 ≤ 20 * 4 ^ 1; decide)
  | .bin o a b, k, h, hk => by
    have hk' : k + (a.nn + b.nn) ≤ N := hk
    have ha := M_ok hL a k h.1 (by exact om89 hk')
    have hb := M_ok hL b (k + a.nn) h.2 (by exact om88 hk')
    have pa : 4 ^ a.ht ≤ 4 ^ (max a.ht b.ht) := Nat.pow_le_pow_right (by decide) (by exact om87)
    have pb : 4 ^ b.ht ≤ 4 ^ (max a.ht b.ht) := Nat.pow_le_pow_right (by decide) (by exact om86)
    have pe : (4 : Nat) ^ (T.bin o a b).ht = 4 * 4 ^ (max a.ht b.ht) := by show 4 ^ (1 + _) = _; rw [Nat.add_comm, Nat.pow_succ, Nat.mul_comm]
    cases o with
    | times => exact put_ok hL ha.meas.nodup ha.keys ha.bd hb (by rw [pe]; show _ + _ * 1 ≤ _; exact om85 pa pb)
    | over => exact put_ok hL ha.meas.nodup ha.keys ha.bd hb (by rw [pe]; show _ + _ * 1 ≤ _; exact om85 pa pb)
    | plus => exact ha.mono (by rw [pe]; exact om84 pa)
    | minus => exact ha.mono (by rw [pe]; exact om84 pa)
  | .pow a n, k, h, hk => by
    have ha := M_ok hL a k h.1 hk
    refine put_ok (A := 0) hL (by simp) (fun _ q => (nomatch q)) (fun _ q => (nomatch q)) ha ?_
    have pe : (4 : Nat) ^ (T.pow a n).ht = 4 * 4 ^ a.ht := by show 4 ^ (1 + _) = _; rw [Nat.add_comm, Nat.pow_succ, Nat.mul_comm]
    rw [pe, Nat.zero_add]
    refine Nat.le_trans (Nat.mul_le_mul_left _ h.2) ?_
    exact om83
  | .less a b c d, k, h, hk => by
    have hk' : k + (a.nn + b.nn + (c.nn + d.nn)) ≤ N := hk
    have hc := M_ok hL c (k + a.nn + b.nn) h.2.2.1 (by exact om82 hk')
    refine hc.mono (Nat.mul_le_mul_left _ (Nat.pow_le_pow_right (by decide) ?_))
    show c.ht ≤ 1 + max (max a.ht b.ht) (max c.ht d.ht)
    exact om81
end Mine

set_option autoImplicit false
set_option maxRecDepth 100000
set_option linter.unusedSimpArgs false
set_option linter.unusedVariables false
namespace Mine
open PySem
theorem fn_measure : G.fn (methK "Looker" "measure") = some F_Looker_measure := by rfl
/-! ## the looker's state -/
noncomputable def LKns (n : Nat) (ow : List PV) (k : Nat) : List (Str × PV) := [("names", .ref n), ("own", .lst ow), ("met", .int k), ("noted", .ref (n + 3))]
noncomputable def LK (σ : AH) (nd : List (Str × PV)) (ow : List PV) (k : Nat) (rows : List PV) : AH := σ ++ [.dict false nd, .ns (LKns σ.length ow k), .inst "Looker" (σ.length + 1), .list false rows]
section
variable {σ : AH} {nd : List (Str × PV)} {ow : List PV} {k : Nat} {rows : List PV}
theorem LK0 : (LK σ nd ow k rows)[σ.length]? = some (.dict false nd) := by simp [LK]
theorem LK1 : (LK σ nd ow k rows)[σ.length + 1]? = some (.ns (LKns σ.length ow k)) := by simp [LK]
theorem LK2 : (LK σ nd ow k rows)[σ.length + 2]? = some (.inst "Looker" (σ.length + 1)) := by simp [LK]
theorem LK3 : (LK σ nd ow k rows)[σ.length + 3]? = some (.list false rows) := by simp [LK]
theorem LK_inst : instOf (LK σ nd ow k rows) (.ref (σ.length + 2)) = some (("Looker" : Str), σ.length + 1, LKns σ.length ow k) := by
  show instAt (LK σ nd ow k rows) (σ.length + 2) = _
  unfold instAt
  rw [LK2]
  unfold nsAt
  simp only
  rw [LK1]; rfl
theorem LK_names (gl : Str → Option PV) (cal : Str → List PV → AH → Res PV) : attrP ⟨gl, cal, G.atr⟩ (LK σ nd ow k rows) (.ref (σ.length + 2)) "names" = some (.ref σ.length) := by unfold attrP; rw [LK_inst]; rfl
theorem LK_own (gl : Str → Option PV) (cal : Str → List PV → AH → Res PV) : attrP ⟨gl, cal, G.atr⟩ (LK σ nd ow k rows) (.ref (σ.length + 2)) "own" = some (.lst ow) := by unfold attrP; rw [LK_inst]; rfl
theorem LK_met (gl : Str → Option PV) (cal : Str → List PV → AH → Res PV) : attrP ⟨gl, cal, G.atr⟩ (LK σ nd ow k rows) (.ref (σ.length + 2)) "met" = some (.int k) := by unfold attrP; rw [LK_inst]; rfl
theorem LK_noted (gl : Str → Option PV) (cal : Str → List PV → AH → Res PV) : attrP ⟨gl, cal, G.atr⟩ (LK σ nd ow k rows) (.ref (σ.length + 2)) "noted" = some (.ref (σ.length + 3)) := by unfold attrP; rw [LK_inst]; rfl
theorem LK_meth : methP (LK σ nd ow k rows) (.ref (σ.length + 2)) "measure" = some (methK "Looker" "measure") := by unfold methP; rw [LK_inst]; rfl
theorem LK_set (gl : Str → Option PV) (cal : Str → List PV → AH → Res PV) : setattrP ⟨gl, cal, G.atr⟩ (LK σ nd ow k rows) (.ref (σ.length + 2)) "met" (.int ((k : Int) + 1)) = some (LK σ nd ow (k + 1) rows) := by
  unfold setattrP
  rw [LK_inst]
  show some ((LK σ nd ow k rows).set (σ.length + 1) _) = _
  refine congrArg some ?_
  unfold LK
  rw [List.set_append_right _ _ (by exact om122)]
  simp only [Nat.add_sub_cancel_left, List.set_cons_succ, List.set_cons_zero]
  rfl
theorem LK_app (hl : rows.length ≤ 1000000) (v : PV) : bmP (LK σ nd ow k rows) .append (.ref (σ.length + 3)) [v] = some (.none, LK σ nd ow k (rows ++ [v])) := by
  rw [app_ref LK3 hl]
  refine congrArg (fun x => some (PV.none, x)) ?_
  unfold LK
  rw [List.set_append_right _ _ (by exact om121)]
  simp only [Nat.add_sub_cancel_left, List.set_cons_succ, List.set_cons_zero]
theorem LK_get {w : Str} {v : PV} (h : dget nd w = some v) : getAt (LK σ nd ow k rows) (.ref σ.length) (.str w) = some (.v v) := by
  unfold getAt
  rw [deref_d LK0]
  show (dget nd w).map Out.v = _
  rw [h]; rfl
end
/-! ## many -/
noncomputable def Ms : List T → Nat → List PV
  | [], _ => []
  | x :: xs, k => mv (x.M k) :: Ms xs (k + x.nn)
noncomputable def Rws : List T → Nat → List DI
  | [], _ => []
  | x :: xs, k => x.Rw k ++ Rws xs (k + x.nn)
noncomputable def nns : List T → Nat
  | [] => 0
  | x :: xs => x.nn + nns xs
theorem nns_kids {t : T} (h : (t.k == 2) = false) : nns t.kids = t.nn := by rcases t with _ | _ | _ | ⟨⟨⟩, a, b⟩ | _ | ⟨a, b, c, d⟩ <;> first | rfl | (simp only [T.kids, nns, T.nn]; exact om98) | cases h
theorem rw_len : ∀ (t : T) (k : Nat), (t.Rw k).length ≤ 2 * t.sz
  | .is _ _, _ | .inp _, _ | .nou, _ => Nat.zero_le _
  | .bin o a b, k => by
    have h1 := rw_len a k; have h2 := rw_len b (k + a.nn)
    cases o <;> simp only [T.Rw, T.sz, List.length_append, List.length_cons, List.length_nil] <;> (first | exact om119 h1 h2 | exact om120 h1 h2)
  | .pow a n, k => by have h1 := rw_len a k; simp only [T.Rw, T.sz]; exact om118 h1
  | .less a b c d, k => by
    have h1 := rw_len a k; have h2 := rw_len b (k + a.nn); have h3 := rw_len c (k + a.nn + b.nn); have h4 := rw_len d (k + a.nn + b.nn + c.nn)
    simp only [T.Rw, T.sz, List.length_append, List.length_cons, List.length_nil]; exact om117 h1 h2 h3 h4
/-- what the looker must know -/
structure Knows (ws : List Str) (N : Nat) (nd : List (Str × PV)) (ow : List PV) : Prop where
  names : ∀ w ∈ ws, dget nd w = some (mv (nam w))
  own : ∀ k, k < N → ow[k]? = some (mv (own k))
  small : N ≤ 1000
theorem comp_measure {N d : Nat} {σ : AH} {nd : List (Str × PV)} {ow : List PV} {ρ : List PV} (hρ : ∀ x, (ρ.set 4 (tv x))[0]? = some (.ref (σ.length + 2)) ∧ (ρ.set 4 (tv x))[4]? = some (tv x)) : ∀ (ks : List T) (k : Nat) (rows : List PV),
    (∀ x ∈ ks, ∀ k rows, k + x.nn ≤ N → rows.length + 2 * x.sz ≤ 100000 → callD G d (methK "Looker" "measure") [.ref (σ.length + 2), tv x] (LK σ nd ow k rows) = .ok (mv (x.M k)) (LK σ nd ow (k + x.nn) (rows ++ (x.Rw k).map mv))) →
    k + nns ks ≤ N → rows.length + 2 * (ks.map T.sz).sum ≤ 100000 →
    compL (ev ⟨G.const, callD G d, G.atr⟩ (.const (.bool true)) 0) (ev ⟨G.const, callD G d, G.atr⟩ (.umeth (.loc 0) "measure" (.cons (.loc 4) .nil)) 0) (.one 4) ρ (ks.map tv) (LK σ nd ow k rows) = .ok (Ms ks k) (LK σ nd ow (k + nns ks) (rows ++ (Rws ks k).map mv))
  | [], k, rows, _, _, _ => by simp [compL, Ms, nns, Rws]
  | x :: xs, k, rows, hx, hk, hr => by
    simp only [nns] at hk
    rw [List.map_cons, List.sum_cons] at hr
    have h1 := hx x List.mem_cons_self k rows (by exact om89 hk) (by exact om116 hr)
    have hrl := rw_len x k
    have h2 := comp_measure hρ xs (k + x.nn) (rows ++ (x.Rw k).map mv) (fun y hy => hx y (List.mem_cons_of_mem _ hy)) (by exact om88 hk) (by rw [List.length_append, List.length_map]; exact om115 hr hrl)
    obtain ⟨r0, r4⟩ := hρ x
    rw [List.map_cons, compL]
    simp only [e_const, e_locV, locV_some, isU_ref, isU_tv, e_nil, e_cons, Bool.false_eq_true, if_false, bind_ok, k_cons1, k_cons2, truth_bool, constP_bool, bindT, e_umeth, k_um1, okN_some, k_um2, k_um3, r0, r4, LK_meth, h1, h2]
    simp only [Ms, nns, Rws, List.map_append, List.append_assoc, Nat.add_assoc]

theorem is_get (σ : AH) (n : PV) (m : DI) : getAt σ (tv (.is n m)) (.int 2) = some (.v (mv m)) := rfl
theorem inp_get (σ : AH) (w : Str) : getAt σ (tv (.inp w)) (.int 1) = some (.v (.str w)) := rfl
theorem pow_get (σ : AH) (a : T) (n : Int) : getAt σ (tv (.pow a n)) (.int 2) = some (.v (.int n)) := rfl
theorem kids_ok {ws ls : List Str} {t : T} (h : t.ok ws ls) : ∀ x ∈ t.kids, x.ok ws ls := by
  cases t with
  | bin o a b => intro x hx; simp [T.kids] at hx; rcases hx with rfl | rfl; exact h.1; exact h.2
  | pow a n => intro x hx; simp [T.kids] at hx; subst hx; exact h.1
  | less a b c d => intro x hx; simp [T.kids] at hx; rcases hx with rfl | rfl | rfl | rfl; exact h.1; exact h.2.1; exact h.2.2.1; exact h.2.2.2
  | _ => intro x hx; cases hx
theorem kids_szs (t : T) : (t.kids.map T.sz).sum < t.sz := by
  cases t <;> simp [T.kids, T.sz] <;> exact om114
theorem pow_big {n : Nat} (h : n ≤ 20) : 20 * 4 ^ n ≤ 10 ^ 30 := Nat.le_trans (Nat.mul_le_mul_left _ (Nat.pow_le_pow_right (by decide) h)) (by decide +kernel)
theorem run_measure {ws ls : List Str} {N : Nat} (hL : LOk (ALet ws ls N)) {σ : AH} {nd : List (Str × PV)} {ow : List PV} (hK : Knows ws N nd ow) (t : T) : ∀ (d k : Nat) (rows : List PV), t.ok ws ls → t.ht ≤ 20 → t.ht ≤ d → k + t.nn ≤ N → rows.length + 2 * t.sz ≤ 100000 →
    callD G (d + 3) (methK "Looker" "measure") [.ref (σ.length + 2), tv t] (LK σ nd ow k rows) = .ok (mv (t.M k)) (LK σ nd ow (k + t.nn) (rows ++ (t.Rw k).map mv)) := by
  induction t using T.byKids with | h t ih => ?_
  intro d k rows hok h20 hd hk hr
  have hp := ok_pure hok
  obtain ⟨e, rfl⟩ : ∃ e, d = e + 1 := ⟨d - 1, by have := ht_pos t; exact om49 hd this⟩
  have hks := kids_szs t
  have hcm : nns t.kids = t.nn → ∀ ρ : List PV, (∀ x, (ρ.set 4 (tv x))[0]? = some (.ref (σ.length + 2)) ∧ (ρ.set 4 (tv x))[4]? = some (tv x)) → compL (ev ⟨G.const, callD G (e + 3), G.atr⟩ (.const (.bool true)) 0) (ev ⟨G.const, callD G (e + 3), G.atr⟩ (.umeth (.loc 0) "measure" (.cons (.loc 4) .nil)) 0) (.one 4) ρ (t.kids.map tv) (LK σ nd ow k rows) = .ok (Ms t.kids k) (LK σ nd ow (k + t.nn) (rows ++ (Rws t.kids k).map mv)) := fun hnn ρ hρ => by
    rw [comp_measure (N := N) hρ t.kids k rows (fun x hx k' rows' h1 h2 => ih x hx e k' rows' (kids_ok hok x hx) (by have := kids_ht hx; exact om113 h20 this) (by have := kids_ht hx; exact om47 hd this) h1 h2) (by rw [hnn]; exact hk) (by exact om112 hr hks), hnn]
  have hpt := run_parts hp (e + 2) (LK σ nd ow k rows)
  rw [callD_s fn_measure]
  have b20 : ∀ {n : Nat}, n ≤ t.ht → 20 * 4 ^ n ≤ 10 ^ 30 := fun h => pow_big (by exact om111 h20 h)
  cases t with
  | is n m => simp only [runFn, List.length_cons, List.length_nil, Nat.reduceAdd, Nat.reduceSub, if_true, List.replicate_succ, List.replicate, List.append_nil, List.nil_append, List.cons_append, e_const, e_locV, locV_some, isU_str, isU_tv, e_cmp, e_idx, x_assign, x_ret, x_ite, x_cons, Bool.false_eq_true, if_false, bind_ok, k_cmp1, k_cmp2, k_idx1, k_idx2, k_assign, k_ret, k_if, k_if_t, k_seq, k_seq_n, k_seq_r, List.getElem?_cons_zero, List.getElem?_cons_succ, List.set_cons_zero, List.set_cons_succ, fin_v, okB_some, truth_bool, constP_int, constP_str, eq_ss, Flw.out, F_Looker_measure, get0, w_is, T.k, Nat.reduceBEq, is_get, T.M, T.Rw, T.nn, List.map_nil, Nat.add_zero]
  | inp w => simp only [runFn, List.length_cons, List.length_nil, Nat.reduceAdd, Nat.reduceSub, if_true, List.replicate_succ, List.replicate, List.append_nil, List.nil_append, List.cons_append, e_const, e_locV, locV_some, isU_str, isU_ref, isU_tv, e_cmp, e_idx, x_assign, x_ret, x_ite, x_nil, x_cons, Bool.false_eq_true, if_false, bind_ok, k_cmp1, k_cmp2, k_idx1, k_idx2, k_assign, k_ret, k_if, k_if_t, k_if_f, k_seq, k_seq_n, k_seq_r, List.getElem?_cons_zero, List.getElem?_cons_succ, List.set_cons_zero, List.set_cons_succ, fin_v, okB_some, truth_bool, constP_int, constP_str, eq_ss, Flw.out, okV_some, e_attr, k_attr, F_Looker_measure, get0, w_is, w_inp, T.k, Nat.reduceBEq, inp_get, LK_names, LK_get (hK.names w hok), T.M, T.Rw, T.nn, List.map_nil, Nat.add_zero]
  | nou =>
    have hkN : k < N := hk
    have hi := fun σ' => idx_lst σ' ow k _ (by have := hK.small; exact om8 hkN this) (hK.own k hkN)
    have hs : (((k + 1 : Nat) : Int) - 1) = (k : Int) := by exact om110
    simp only [runFn, List.length_cons, List.length_nil, Nat.reduceAdd, Nat.reduceSub, if_true, List.replicate_succ, List.replicate, List.append_nil, List.nil_append, List.cons_append, e_const, e_locV, locV_some, isU_str, isU_ref, isU_tv, e_bin, e_cmp, e_idx, x_assign, x_ret, x_ite, x_nil, x_cons, Bool.false_eq_true, if_false, bind_ok, k_bin1, k_bin2, k_cmp1, k_cmp2, k_idx1, k_idx2, k_assign, k_set4, k_ret, k_if, k_if_t, k_if_f, k_seq, k_seq_n, k_seq_r, List.getElem?_cons_zero, List.getElem?_cons_succ, List.set_cons_zero, List.set_cons_succ, fin_v, okB_some, truth_bool, constP_int, constP_str, add_ii, sub_ii, eq_ss, Flw.out, okV_some, e_attr, k_attr, x_setattr, k_sa1, k_sa2, F_Looker_measure, get0, w_is, w_inp, w_nou, T.k, Nat.reduceBEq, LK_met, LK_set, LK_own, hs, hi, T.M, T.Rw, T.nn, List.map_nil]
  | pow a n =>
    have ha := M_ok hL a k hok.1 hk
    have hpw := fun σ' => pow_run hL (b20 (by simp only [T.ht]; exact om109)) ha (n := n) (by have := hok.2; omega) (e + 1) σ'
    simp only [runFn, List.length_cons, List.length_nil, Nat.reduceAdd, Nat.reduceSub, if_true, List.replicate_succ, List.replicate, List.nil_append, List.cons_append, e_const, e_locV, locV_some, isU_str, isU_tv, e_cmp, e_idx, e_comp, e_call, e_nil, e_cons, x_assign, x_ite, x_nil, x_cons, Bool.false_eq_true, if_false, items_lst, lkV_lst, lockV_lst, Nat.pred, bind_ok, k_cmp1, k_cmp2, k_idx1, k_idx2, k_comp1, k_compI, k_call, k_cons1, k_cons2, k_assign, k_if, k_if_f, k_seq, k_seq_n, List.getElem?_cons_zero, List.getElem?_cons_succ, List.set_cons_zero, List.set_cons_succ, fin_v, okB_some, truth_bool, constP_int, constP_str, eq_ss, kill, List.foldl_cons, List.foldl_nil, tgtSlots, Flw.out, F_Looker_measure, get0, w_is, w_inp, w_nou, T.k, Nat.reduceBEq, hpt]
    rw [hcm rfl _ fun x => ⟨rfl, rfl⟩]
    have hsm : small (Ms (T.pow a n).kids k).length = true := rfl
    have g0 : ∀ σ', getAt σ' (.lst (Ms (T.pow a n).kids k)) (.int 0) = some (.v (mv (a.M k))) := fun _ => rfl
    simp only [if_true, e_const, e_locV, locV_some, isU_str, isU_lst, isU_tv, e_cmp, e_idx, e_call, e_nil, e_cons, x_ret, x_ite, x_nil, x_cons, Bool.false_eq_true, if_false, lockV_lst, unlk_ok, box_0, val_list, bind_ok, k_cmp1, k_cmp2, k_idx1, k_idx2, k_comp2, k_call, k_cons1, k_cons2, k_assign, k_ret, k_if, k_if_t, k_if_f, k_seq, k_seq_n, k_seq_r, List.getElem?_cons_zero, List.getElem?_cons_succ, List.set_cons_zero, List.set_cons_succ, fin_v, okB_some, truth_bool, constP_int, constP_str, eq_ss, w_times, w_over, w_pow, T.k, Nat.reduceBEq, hsm, g0, pow_get, hpw]
    simp only [T.M, T.Rw, T.kids, Rws, T.nn, List.append_nil]
  | bin o a b =>
    have hk' : k + (a.nn + b.nn) ≤ N := hk
    have ha := M_ok hL a k hok.1 (by exact om89 hk')
    have hb := M_ok hL b (k + a.nn) hok.2 (by exact om88 hk')
    have h2 : Two (ALet ws ls N) (a.M k) (b.M (k + a.nn)) := ⟨⟨_, b20 (by simp only [T.ht]; exact om107), ha⟩, ⟨_, b20 (by simp only [T.ht]; exact om106), hb⟩⟩
    have ht := fun σ' => h2.times hL (e + 1) σ'
    have ho := fun σ' => h2.over hL (e + 1) σ'
    have k0 : ((T.bin o a b).k == 0) = false := by cases o <;> rfl
    have k1 : ((T.bin o a b).k == 1) = false := by cases o <;> rfl
    have k2 : ((T.bin o a b).k == 2) = false := by cases o <;> rfl
    have k5 : ((T.bin o a b).k == 5) = false := by cases o <;> rfl
    have k6 : ((T.bin o a b).k == 6) = false := by cases o <;> rfl
    simp only [runFn, List.length_cons, List.length_nil, Nat.reduceAdd, Nat.reduceSub, if_true, List.replicate_succ, List.replicate, List.nil_append, List.cons_append, e_const, e_locV, locV_some, isU_str, isU_tv, e_cmp, e_idx, e_comp, e_call, e_nil, e_cons, x_assign, x_ite, x_nil, x_cons, Bool.false_eq_true, if_false, items_lst, lkV_lst, lockV_lst, Nat.pred, bind_ok, k_cmp1, k_cmp2, k_idx1, k_idx2, k_comp1, k_compI, k_call, k_cons1, k_cons2, k_assign, k_if, k_if_f, k_seq, k_seq_n, List.getElem?_cons_zero, List.getElem?_cons_succ, List.set_cons_zero, List.set_cons_succ, fin_v, okB_some, truth_bool, constP_int, constP_str, eq_ss, kill, List.foldl_cons, List.foldl_nil, tgtSlots, Flw.out, F_Looker_measure, get0, w_is, w_inp, w_nou, k0, k1, k2, hpt]
    rw [hcm rfl _ fun x => ⟨rfl, rfl⟩]
    have hsm : small (Ms (T.bin o a b).kids k).length = true := rfl
    have g0 : ∀ σ', getAt σ' (.lst (Ms (T.bin o a b).kids k)) (.int 0) = some (.v (mv (a.M k))) := fun _ => rfl
    have g1 : ∀ σ', getAt σ' (.lst (Ms (T.bin o a b).kids k)) (.int 1) = some (.v (mv (b.M (k + a.nn)))) := fun _ => rfl
    have hrl : (rows ++ (Rws (T.bin o a b).kids k).map mv).length ≤ 1000000 := by
      have q1 := rw_len a k; have q2 := rw_len b (k + a.nn)
      simp only [T.kids, Rws, List.length_append, List.length_map, List.length_nil, T.sz] at hr ⊢
      exact om105 hr q1 q2
    simp only [if_true, e_const, e_locV, locV_some, isU_str, e_cmp, x_ite, x_cons, Bool.false_eq_true, if_false, lockV_lst, unlk_ok, box_0, val_list, bind_ok, k_cmp1, k_cmp2, k_comp2, k_assign, k_if, k_seq, k_seq_n, List.getElem?_cons_zero, List.getElem?_cons_succ, List.set_cons_zero, List.set_cons_succ, okB_some, truth_bool, constP_str, eq_ss, hsm]
    cases o with
    | times =>
      simp only [e_const, e_locV, locV_some, isU_lst, e_idx, e_call, e_nil, e_cons, x_ret, x_cons, Bool.false_eq_true, if_false, bind_ok, k_idx1, k_idx2, k_call, k_cons1, k_cons2, k_ret, k_if_t, k_seq, k_seq_r, List.getElem?_cons_zero, List.getElem?_cons_succ, fin_v, constP_int, w_times, T.k, Nat.reduceBEq, g0, g1, ht]
      simp only [T.M, T.Rw, T.kids, Rws, T.nn, List.append_nil]
    | over =>
      simp only [e_const, e_locV, locV_some, isU_str, isU_lst, e_cmp, e_idx, e_call, e_nil, e_cons, x_ret, x_ite, x_nil, x_cons, Bool.false_eq_true, if_false, bind_ok, k_cmp1, k_cmp2, k_idx1, k_idx2, k_call, k_cons1, k_cons2, k_ret, k_if, k_if_t, k_if_f, k_seq, k_seq_n, k_seq_r, List.getElem?_cons_zero, List.getElem?_cons_succ, fin_v, okB_some, truth_bool, constP_int, constP_str, eq_ss, w_times, w_over, T.k, Nat.reduceBEq, g0, g1, ho]
      simp only [T.M, T.Rw, T.kids, Rws, T.nn, List.append_nil]
    | plus =>
      simp only [e_const, e_locV, locV_some, isU_str, isU_lst, isU_ref, e_cmp, e_idx, e_call, e_meth, e_nil, e_cons, x_expr, x_ret, x_ite, x_nil, x_cons, Bool.false_eq_true, if_false, bind_ok, k_cmp1, k_cmp2, k_idx1, k_idx2, k_call, k_meth1, k_methI, k_meth2, k_meth3, k_cons1, k_cons2, k_expr, k_ret, k_if, k_if_f, k_seq, k_seq_n, k_seq_r, List.getElem?_cons_zero, List.getElem?_cons_succ, fin_v, okB_some, truth_bool, constP_int, constP_str, eq_ss, okV_some, e_attr, k_attr, w_times, w_over, w_pow, w_less, T.k, Nat.reduceBEq, g0, g1, ho, LK_noted, isTy_list LK3, BM.ty, LK_app hrl]
      simp only [T.M, T.Rw, T.kids, Rws, T.nn, List.append_nil, List.map_append, List.map_cons, List.map_nil, List.append_assoc]
    | minus =>
      simp only [e_const, e_locV, locV_some, isU_str, isU_lst, isU_ref, e_cmp, e_idx, e_call, e_meth, e_nil, e_cons, x_expr, x_ret, x_ite, x_nil, x_cons, Bool.false_eq_true, if_false, bind_ok, k_cmp1, k_cmp2, k_idx1, k_idx2, k_call, k_meth1, k_methI, k_meth2, k_meth3, k_cons1, k_cons2, k_expr, k_ret, k_if, k_if_f, k_seq, k_seq_n, k_seq_r, List.getElem?_cons_zero, List.getElem?_cons_succ, fin_v, okB_some, truth_bool, constP_int, constP_str, eq_ss, okV_some, e_attr, k_attr, w_times, w_over, w_pow, w_less, T.k, Nat.reduceBEq, g0, g1, ho, LK_noted, isTy_list LK3, BM.ty, LK_app hrl]
      simp only [T.M, T.Rw, T.kids, Rws, T.nn, List.append_nil, List.map_append, List.map_cons, List.map_nil, List.append_assoc]
  | less a b c f =>
    have hk' : k + (a.nn + b.nn + (c.nn + f.nn)) ≤ N := hk
    have ha := M_ok hL a k hok.1 (by exact om104 hk')
    have hb := M_ok hL b (k + a.nn) hok.2.1 (by exact om103 hk')
    have hc := M_ok hL c (k + a.nn + b.nn) hok.2.2.1 (by exact om82 hk')
    have hf := M_ok hL f (k + a.nn + b.nn + c.nn) hok.2.2.2 (by exact om102 hk')
    have h2 : Two (ALet ws ls N) (a.M k) (b.M (k + a.nn)) := ⟨⟨_, b20 (by simp only [T.ht]; exact om101), ha⟩, ⟨_, b20 (by simp only [T.ht]; exact om100), hb⟩⟩
    have h3 : Two (ALet ws ls N) (c.M (k + a.nn + b.nn)) (f.M (k + a.nn + b.nn + c.nn)) := ⟨⟨_, b20 (by simp only [T.ht]; exact om81), hc⟩, ⟨_, b20 (by simp only [T.ht]; exact om99), hf⟩⟩
    have ho := fun σ' => h2.over hL (e + 1) σ'
    have hq := fun σ' => h3.over hL (e + 1) σ'
    simp only [runFn, List.length_cons, List.length_nil, Nat.reduceAdd, Nat.reduceSub, if_true, List.replicate_succ, List.replicate, List.nil_append, List.cons_append, e_const, e_locV, locV_some, isU_str, isU_tv, e_cmp, e_idx, e_comp, e_call, e_nil, e_cons, x_assign, x_ite, x_nil, x_cons, Bool.false_eq_true, if_false, items_lst, lkV_lst, lockV_lst, Nat.pred, bind_ok, k_cmp1, k_cmp2, k_idx1, k_idx2, k_comp1, k_compI, k_call, k_cons1, k_cons2, k_assign, k_if, k_if_f, k_seq, k_seq_n, List.getElem?_cons_zero, List.getElem?_cons_succ, List.set_cons_zero, List.set_cons_succ, fin_v, okB_some, truth_bool, constP_int, constP_str, eq_ss, kill, List.foldl_cons, List.foldl_nil, tgtSlots, Flw.out, F_Looker_measure, get0, w_is, w_inp, w_nou, T.k, Nat.reduceBEq, hpt]
    rw [hcm (by simp only [T.kids, nns, T.nn]; exact om98) _ fun x => ⟨rfl, rfl⟩]
    have hsm : small (Ms (T.less a b c f).kids k).length = true := rfl
    have g0 : ∀ σ', getAt σ' (.lst (Ms (T.less a b c f).kids k)) (.int 0) = some (.v (mv (a.M k))) := fun _ => rfl
    have g1 : ∀ σ', getAt σ' (.lst (Ms (T.less a b c f).kids k)) (.int 1) = some (.v (mv (b.M (k + a.nn)))) := fun _ => rfl
    have g2 : ∀ σ', getAt σ' (.lst (Ms (T.less a b c f).kids k)) (.int 2) = some (.v (mv (c.M (k + a.nn + b.nn)))) := fun _ => rfl
    have g3 : ∀ σ', getAt σ' (.lst (Ms (T.less a b c f).kids k)) (.int 3) = some (.v (mv (f.M (k + a.nn + b.nn + c.nn)))) := fun _ => rfl
    have hrl : (rows ++ (Rws (T.less a b c f).kids k).map mv).length ≤ 100000 := by
      have q1 := rw_len a k; have q2 := rw_len b (k + a.nn); have q3 := rw_len c (k + a.nn + b.nn); have q4 := rw_len f (k + a.nn + b.nn + c.nn)
      simp only [T.kids, Rws, List.length_append, List.length_map, List.length_nil, T.sz] at hr ⊢
      exact om97 hr q1 q2 q3 q4
    simp only [if_true, e_const, e_locV, locV_some, isU_str, isU_lst, isU_ref, e_cmp, e_idx, e_call, e_meth, e_nil, e_cons, x_expr, x_ret, x_ite, x_nil, x_cons, Bool.false_eq_true, if_false, lockV_lst, unlk_ok, box_0, val_list, bind_ok, k_cmp1, k_cmp2, k_idx1, k_idx2, k_comp2, k_call, k_meth1, k_methI, k_meth2, k_meth3, k_cons1, k_cons2, k_assign, k_expr, k_ret, k_if, k_if_t, k_if_f, k_seq, k_seq_n, k_seq_r, List.getElem?_cons_zero, List.getElem?_cons_succ, List.set_cons_zero, List.set_cons_succ, fin_v, okB_some, truth_bool, constP_int, constP_str, eq_ss, okV_some, e_attr, k_attr, hsm, w_times, w_over, w_pow, w_less, T.k, Nat.reduceBEq, g0, g1, g2, g3, ho, hq, LK_noted, isTy_list LK3, BM.ty, LK_app (Nat.le_trans hrl (by decide)), LK_app (rows := rows ++ (Rws (T.less a b c f).kids k).map mv ++ [mv (madeL (putF (a.M k) (b.M (k + a.nn)) (-1)))]) (by rw [List.length_append]; simp only [List.length_cons, List.length_nil]; exact om96 hrl)]
    simp only [T.M, T.Rw, T.kids, Rws, T.nn, List.append_nil, List.map_append, List.map_cons, List.map_nil, List.append_assoc, Nat.add_assoc]
end Mine

set_option autoImplicit false
set_option maxRecDepth 100000
set_option linter.unusedSimpArgs false
set_option linter.unusedVariables false
namespace Mine
open PySem
theorem fn_walk : G.fn "_law_walk" = some F_law_walk := by rfl
theorem Ms_snoc : ∀ (l : List T) (x : T) (k : Nat), Ms (l ++ [x]) k = Ms l k ++ [mv (x.M (k + nns l))]
  | [], x, k => rfl
  | y :: l, x, k => by simp only [List.cons_append, Ms, nns, Ms_snoc l x, Nat.add_assoc]
theorem Rws_snoc : ∀ (l : List T) (x : T) (k : Nat), Rws (l ++ [x]) k = Rws l k ++ x.Rw (k + nns l)
  | [], x, k => by simp [Rws, nns]
  | y :: l, x, k => by simp only [List.cons_append, Rws, nns, Rws_snoc l x, Nat.add_assoc, List.append_assoc]
theorem nns_snoc : ∀ (l : List T) (x : T), nns (l ++ [x]) = nns l + x.nn
  | [], x => by simp [nns]
  | y :: l, x => by simp only [List.cons_append, nns, nns_snoc l x, Nat.add_assoc]
theorem cut_lst (σ : AH) (l : List PV) (n : Nat) (hn : n ≤ 1000000) (hl : l.length ≤ 1000000) : cutF σ (.lst l) (.int n) = some (.f (.list (l.drop n))) := by
  have h1 : natOf (.int (n : Int)) = some n := by
    show (if 0 ≤ (n : Int) ∧ (n : Int) ≤ 1000000 then some (n : Int).toNat else none) = _
    rw [if_pos (by exact om132 hn)]; rfl
  unfold cutF
  rw [h1]
  show (if small l.length then some (Out.f (.list ((l.take 1000000).drop n))) else none) = _
  rw [if_pos (show small l.length = true from decide_eq_true hl), List.take_of_length_le hl]
theorem Ms_len : ∀ (l : List T) (k : Nat), (Ms l k).length = l.length
  | [], _ => rfl
  | x :: l, k => by simp [Ms, Ms_len l]
theorem Rws_len : ∀ (l : List T) (k : Nat), (Rws l k).length ≤ 2 * (l.map T.sz).sum
  | [], _ => Nat.le_refl _
  | x :: l, k => by
    have h1 := rw_len x k; have h2 := Rws_len l (k + x.nn)
    simp only [Rws, List.length_append, List.map_cons, List.sum_cons]; exact om131 h1 h2
theorem sum_pre {done : List T} {x : T} {rest all : List T} (h : done ++ x :: rest = all) : (done.map T.sz).sum + x.sz ≤ (all.map T.sz).sum := by
  subst h
  rw [List.map_append, List.map_cons, List.sum_append, List.sum_cons]; exact om50
theorem nns_pre {done : List T} {x : T} {rest all : List T} (h : done ++ x :: rest = all) : nns done + x.nn ≤ nns all := by
  subst h
  have : ∀ l m : List T, nns (l ++ m) = nns l + nns m := by
    intro l m
    induction l with
    | nil => simp [nns]
    | cons y l ih => simp only [List.cons_append, nns, ih, Nat.add_assoc]
  rw [this]
  simp only [nns]; exact om50
theorem drop_get {l : List PV} {k : Nat} {v : PV} (h : l[k]? = some v) : (l.drop k)[0]? = some v := by rw [List.getElem?_drop]; exact h
theorem rows_pure (l : List DI) : pureVs (l.map mv) = true := pureVs_map fun x _ => mv_pure x
theorem pair_pure (a : DI) (l : List DI) : pureV (.tup [mv a, .lst (l.map mv)]) = true := by
  show (pureV (mv a) && (pureVs (l.map mv) && true)) = true
  rw [mv_pure, rows_pure]; rfl
/-- the names, tracked -/
noncomputable def HasN (ws : List Str) (σ : AH) (i : Nat) : Prop := ∃ nd b, σ[i]? = some (.dict b nd) ∧ ∀ w ∈ ws, dget nd w = some (mv (nam w))
theorem HasN.more {ws : List Str} {σ : AH} {i : Nat} (h : HasN ws σ i) (l : AH) : HasN ws (σ ++ l) i := by
  obtain ⟨nd, b, h1, h2⟩ := h
  refine ⟨nd, b, ?_, h2⟩
  rw [List.getElem?_append_left]
  · exact h1
  · rcases Nat.lt_or_ge i σ.length with q | q
    · exact q
    · rw [List.getElem?_eq_none q] at h1; cases h1
theorem HasN.get {ws : List Str} {σ : AH} {i : Nat} (h : HasN ws σ i) {w : Str} (hw : w ∈ ws) : getAt σ (.ref i) (.str w) = some (.v (mv (nam w))) := by
  obtain ⟨nd, b, h1, h2⟩ := h
  unfold getAt
  rw [deref_d h1]
  show (dget nd w).map Out.v = _
  rw [h2 w hw]; rfl
theorem get_ref {σ : AH} {l : List PV} {b : Bool} (k : Nat) (v : PV) (hk : k ≤ 1000000) (h : l[k]? = some v) : getAt (σ ++ [AObj.list b l]) (.ref σ.length) (.int k) = some (.v v) := by
  unfold getAt
  rw [deref_l get_snoc]
  exact pick_nat hk h
theorem app_snoc' {σ : AH} {l : List PV} (hl : l.length ≤ 1000000) (v : PV) : bmP (σ ++ [AObj.list false l]) .append (.ref σ.length) [v] = some (.none, σ ++ [AObj.list false (l ++ [v])]) := by
  rw [app_ref get_snoc hl, set_snoc]
theorem run_walk {ws ls : List Str} {N : Nat} (hL : LOk (ALet ws ls N)) {ow : List PV} (hN : N ≤ 1000) (hol : ow.length ≤ 1000) (hown : ∀ k, k < N → ow[k]? = some (mv (own k))) {i : Nat} (t : T) : ∀ (d k : Nat) (σ : AH), HasN ws σ i → t.ok ws ls → t.ht ≤ 20 → t.ht ≤ d → k + t.nn ≤ N → t.sz ≤ 1000 →
    callD G (d + 3) "_law_walk" [tv t, .ref i, .lst (ow.drop k)] σ = .ok (.tup [mv (t.M k), .lst ((t.Rw k).map mv)]) σ := by
  induction t using T.byKids with | h t ih => ?_
  intro d k σ hn hok h20 hd hk hs
  have hp := ok_pure hok
  obtain ⟨e, rfl⟩ : ∃ e, d = e + 1 := ⟨d - 1, by have := ht_pos t; exact om49 hd this⟩
  have hks := kids_szs t
  have b20 : ∀ {n : Nat}, n ≤ t.ht → 20 * 4 ^ n ≤ 10 ^ 30 := fun h => pow_big (by exact om111 h20 h)
  have hpt := fun σ' => run_lparts hp (e + 2) σ'
  have hloop : nns t.kids = t.nn → forL (execs ⟨G.const, callD G (e + 3), G.atr⟩ (.cons (.assign 6 0 (.call "_law_walk" (.cons (.loc 5) (.cons (.loc 1) (.cons (.loc 2) .nil))))) (.cons (.assign 2 0 (.sliceF (.loc 2) (.call "_law_noughts" (.cons (.loc 5) .nil)))) (.cons (.expr (.meth (.loc 3) .append (.cons (.idx (.loc 6) (.const (.int 0))) .nil))) (.cons (.assign 4 0 (.bin .Add (.loc 4) (.idx (.loc 6) (.const (.int 1))))) .nil))))) (.one 5) [5, 6] (t.kids.map tv) [tv t, .ref i, .lst (ow.drop k), .ref σ.length, .lst [], .undef, .undef] (σ ++ [.list false []]) =
      .ok (.next, [tv t, .ref i, .lst (ow.drop (k + t.nn)), .ref σ.length, .lst ((Rws t.kids k).map mv), .undef, .undef]) (σ ++ [.list false (Ms t.kids k)]) := fun hnn => by
    have step := forL_list (c := ⟨G.const, callD G (e + 3), G.atr⟩) (body := (.cons (.assign 6 0 (.call "_law_walk" (.cons (.loc 5) (.cons (.loc 1) (.cons (.loc 2) .nil))))) (.cons (.assign 2 0 (.sliceF (.loc 2) (.call "_law_noughts" (.cons (.loc 5) .nil)))) (.cons (.expr (.meth (.loc 3) .append (.cons (.idx (.loc 6) (.const (.int 0))) .nil))) (.cons (.assign 4 0 (.bin .Add (.loc 4) (.idx (.loc 6) (.const (.int 1))))) .nil))))) (t := .one 5) (ks := [5, 6]) tv (fun done => σ ++ [.list false (Ms done k)]) (fun done => [tv t, .ref i, .lst (ow.drop (k + nns done)), .ref σ.length, .lst ((Rws done k).map mv), .undef, .undef]) t.kids ?_ t.kids [] [tv t, .ref i, .lst (ow.drop k), .ref σ.length, .lst [], .undef, .undef] rfl rfl
    · rw [hnn] at step; exact step
    · intro done x rest he
      have hx : x ∈ t.kids := he ▸ List.mem_append_right _ List.mem_cons_self
      have hxs := kids_sz hx; have hxh := kids_ht hx
      have hnp := nns_pre he; have hsp := sum_pre he
      have hRl := Rws_len done k; have hrl := rw_len x (k + nns done)
      have hdl : done.length ≤ 4 := by have := congrArg List.length he; rw [List.length_append] at this; have := kids_len t; exact om130 (by assumption) this
      have h1 := ih x hx e (k + nns done) (σ ++ [.list false (Ms done k)]) (hn.more _) (kids_ok hok x hx) (by exact om113 h20 hxh) (by exact om47 hd hxh) (by exact om129 hk hnn hnp) (by exact om48 hs hxs)
      have h2 := run_lnoughts x (e + 2) (σ ++ [.list false (Ms done k)]) (kids_pure hp x hx) (by exact om128 hd hxh)
      have hsz := nn_sz x
      have h3 := fun σ' => cut_lst σ' (ow.drop (k + nns done)) x.nn (by exact om127 hs hxs hsz) (by rw [List.length_drop]; exact om126 hol)
      have g0 : ∀ σ', getAt σ' (.tup [mv (x.M (k + nns done)), .lst ((x.Rw (k + nns done)).map mv)]) (.int 0) = some (.v (mv (x.M (k + nns done)))) := fun _ => rfl
      have g1 : ∀ σ', getAt σ' (.tup [mv (x.M (k + nns done)), .lst ((x.Rw (k + nns done)).map mv)]) (.int 1) = some (.v (.lst ((x.Rw (k + nns done)).map mv))) := fun _ => rfl
      have h4 := fun σ' => add_ll σ' ((Rws done k).map mv) ((x.Rw (k + nns done)).map mv) (by rw [List.length_map, List.length_map]; exact om125 hs hks hsp hRl hrl)
      have h5 := app_snoc' (σ := σ) (l := Ms done k) (by rw [Ms_len]; exact om45 hdl) (mv (x.M (k + nns done)))
      refine ⟨_, [tv t, .ref i, .lst (ow.drop (k + nns (done ++ [x]))), .ref σ.length, .lst ((Rws (done ++ [x]) k).map mv), tv x, .tup [mv (x.M (k + nns done)), .lst ((x.Rw (k + nns done)).map mv)]], rfl, ?_, rfl⟩
      simp only [e_const, e_locV, locV_some, isU_tup, isU_lst, isU_ref, isU_tv, e_bin, e_idx, e_call, e_meth, e_nil, e_cons, x_assign, x_expr, x_nil, x_cons, Bool.false_eq_true, if_false, val_list, bind_ok, k_bin1, k_bin2, k_idx1, k_idx2, k_call, k_meth1, k_methI, k_meth2, k_meth3, k_cons1, k_cons2, k_assign, k_expr, k_seq, k_seq_n, List.getElem?_cons_zero, List.getElem?_cons_succ, List.set_cons_zero, List.set_cons_succ, fin_v, fin_f0, constP_int, e_sliceF, k_slF1, k_slF2, h1, h2, h3, g0, g1, h4, isTy_list get_snoc, BM.ty, h5]
      simp only [Ms_snoc, Rws_snoc, nns_snoc, List.drop_drop, List.map_append, Nat.add_assoc]
  rw [callD_s fn_walk]
  have hnil : ∀ m : DI, pureV (.tup [mv m, .lst []]) = true := fun m => pair_pure m []
  cases t with
  | is n m =>
    simp only [runFn, List.length_cons, List.length_nil, Nat.reduceAdd, Nat.reduceSub, if_true, List.replicate_succ, List.replicate, List.nil_append, List.cons_append, e_const, e_locV, locV_some, isU_tv, e_cmp, e_tup, e_lst, e_idx, e_nil, e_cons, x_ret, x_ite, x_cons, Bool.false_eq_true, if_false, box_0, val_list, Nat.pred, List.take_length, bind_ok, k_cmp1, k_cmp2, k_tup, k_lst, k_idx1, k_idx2, k_cons1, k_cons2, k_ret, k_if, k_if_t, k_seq, k_seq_r, List.getElem?_cons_zero, fin_v, okB_some, truth_bool, constP_int, constP_str, eq_ss, Flw.out, F_law_walk, get0, w_is, T.k, Nat.reduceBEq, is_get]
    rw [frz_pure (hnil m)]; rfl
  | inp w =>
    simp only [runFn, List.length_cons, List.length_nil, Nat.reduceAdd, Nat.reduceSub, if_true, List.replicate_succ, List.replicate, List.nil_append, List.cons_append, e_const, e_locV, locV_some, isU_ref, isU_tv, e_cmp, e_tup, e_lst, e_idx, e_nil, e_cons, x_ret, x_ite, x_nil, x_cons, Bool.false_eq_true, if_false, box_0, val_list, Nat.pred, List.take_length, bind_ok, k_cmp1, k_cmp2, k_tup, k_lst, k_idx1, k_idx2, k_cons1, k_cons2, k_ret, k_if, k_if_t, k_if_f, k_seq, k_seq_n, k_seq_r, List.getElem?_cons_zero, List.getElem?_cons_succ, fin_v, okB_some, truth_bool, constP_int, constP_str, eq_ss, Flw.out, F_law_walk, get0, w_is, w_inp, w_nou, T.k, Nat.reduceBEq, inp_get, hn.get (w := w) hok]
    rw [frz_pure (hnil _)]; rfl
  | nou =>
    have hi := idx_lst σ (ow.drop k) 0 _ (by decide) (drop_get (hown k hk))
    have hi' : getAt σ (.lst (ow.drop k)) (.int 0) = some (.v (mv (own k))) := hi
    simp only [runFn, List.length_cons, List.length_nil, Nat.reduceAdd, Nat.reduceSub, if_true, List.replicate_succ, List.replicate, List.nil_append, List.cons_append, e_const, e_locV, locV_some, isU_lst, isU_tv, e_cmp, e_tup, e_lst, e_idx, e_nil, e_cons, x_ret, x_ite, x_nil, x_cons, Bool.false_eq_true, if_false, box_0, val_list, Nat.pred, List.take_length, bind_ok, k_cmp1, k_cmp2, k_tup, k_lst, k_idx1, k_idx2, k_cons1, k_cons2, k_ret, k_if, k_if_t, k_if_f, k_seq, k_seq_n, k_seq_r, List.getElem?_cons_zero, List.getElem?_cons_succ, fin_v, okB_some, truth_bool, constP_int, constP_str, eq_ss, Flw.out, F_law_walk, get0, w_is, w_nou, T.k, Nat.reduceBEq, hi']
    rw [frz_pure (hnil _)]; rfl
  | pow a n =>
    have ha := M_ok hL a k hok.1 hk
    have h2 : Two (ALet ws ls N) [] (a.M k) := ⟨⟨0, by decide, nil_ok _⟩, ⟨_, b20 (by simp only [T.ht]; exact om109), ha⟩⟩
    have ht := fun σ' => h2.ltimes hL (n := n) (by have := hok.2; omega) (e + 1) σ'
    simp only [runFn, List.length_cons, List.length_nil, Nat.reduceAdd, Nat.reduceSub, if_true, List.replicate_succ, List.replicate, List.nil_append, List.cons_append, e_const, e_locV, locV_some, isU_tv, e_cmp, e_lst, e_idx, e_call, e_nil, e_cons, x_assign, x_ite, x_for, x_nil, x_cons, Bool.false_eq_true, if_false, items_lst, lkV_lst, lockV_lst, box_0, box_1, val_list, obj_list, Nat.pred, bind_ok, k_cmp1, k_cmp2, k_lst, k_idx1, k_idx2, k_call, k_cons1, k_cons2, k_assign, k_if, k_if_f, k_for, k_forI, k_seq, k_seq_n, List.getElem?_cons_zero, List.set_cons_zero, List.set_cons_succ, fin_v, okB_some, truth_bool, constP_int, constP_str, eq_ss, Flw.out, F_law_walk, get0, w_is, w_inp, w_nou, T.k, Nat.reduceBEq, hpt]
    rw [hloop rfl]
    have g0 := get_ref (σ := σ) (l := Ms (T.pow a n).kids k) (b := false) 0 (mv (a.M k)) (by decide) rfl
    have g0' : getAt (σ ++ [AObj.list false (Ms (T.pow a n).kids k)]) (.ref σ.length) (.int 0) = some (.v (mv (a.M k))) := g0
    have ht' : ∀ σ', callD G (e + 3) "_law_times" [.tup [], mv (a.M k), .int n] σ' = .ok (mv (madeL (putF [] (a.M k) n))) σ' := ht
    simp only [if_true, e_const, e_locV, locV_some, isU_lst, isU_ref, isU_tv, e_cmp, e_tup, e_idx, e_call, e_nil, e_cons, x_ret, x_ite, x_cons, Bool.false_eq_true, if_false, lockV_lst, unlk_ok, List.take_left, bind_ok, k_cmp1, k_cmp2, k_tup, k_idx1, k_idx2, k_call, k_cons1, k_cons2, k_ret, k_if, k_if_t, k_seq, k_seq_n, k_seq_r, List.getElem?_cons_zero, List.getElem?_cons_succ, fin_v, okB_some, truth_bool, constP_int, constP_str, eq_ss, get0, w_pow, T.k, Nat.reduceBEq, g0', pow_get, ht']
    rw [frz_pure (pair_pure _ _)]
    simp only [T.M, T.Rw, T.kids, Rws, List.append_nil]
  | bin o a b =>
    have hk' : k + (a.nn + b.nn) ≤ N := hk
    have ha := M_ok hL a k hok.1 (by exact om89 hk')
    have hb := M_ok hL b (k + a.nn) hok.2 (by exact om88 hk')
    have h2 : Two (ALet ws ls N) (a.M k) (b.M (k + a.nn)) := ⟨⟨_, b20 (by simp only [T.ht]; exact om107), ha⟩, ⟨_, b20 (by simp only [T.ht]; exact om106), hb⟩⟩
    have ht := fun σ' => h2.ltimes hL (n := 1) (by decide) (e + 1) σ'
    have ho := fun σ' => h2.ltimes hL (n := -1) (by decide) (e + 1) σ'
    have k0 : ((T.bin o a b).k == 0) = false := by cases o <;> rfl
    have k1 : ((T.bin o a b).k == 1) = false := by cases o <;> rfl
    have k2 : ((T.bin o a b).k == 2) = false := by cases o <;> rfl
    have k5 : ((T.bin o a b).k == 5) = false := by cases o <;> rfl
    have k6 : ((T.bin o a b).k == 6) = false := by cases o <;> rfl
    simp only [runFn, List.length_cons, List.length_nil, Nat.reduceAdd, Nat.reduceSub, if_true, List.replicate_succ, List.replicate, List.nil_append, List.cons_append, e_const, e_locV, locV_some, isU_tv, e_cmp, e_lst, e_idx, e_call, e_nil, e_cons, x_assign, x_ite, x_for, x_nil, x_cons, Bool.false_eq_true, if_false, items_lst, lkV_lst, lockV_lst, box_0, box_1, val_list, obj_list, Nat.pred, bind_ok, k_cmp1, k_cmp2, k_lst, k_idx1, k_idx2, k_call, k_cons1, k_cons2, k_assign, k_if, k_if_f, k_for, k_forI, k_seq, k_seq_n, List.getElem?_cons_zero, List.set_cons_zero, List.set_cons_succ, fin_v, okB_some, truth_bool, constP_int, constP_str, eq_ss, Flw.out, F_law_walk, get0, w_is, w_inp, w_nou, k0, k1, k2, hpt]
    rw [hloop rfl]
    have g0 : getAt (σ ++ [AObj.list false (Ms (T.bin o a b).kids k)]) (.ref σ.length) (.int 0) = some (.v (mv (a.M k))) := get_ref (σ := σ) 0 _ (by decide) rfl
    have g1 : getAt (σ ++ [AObj.list false (Ms (T.bin o a b).kids k)]) (.ref σ.length) (.int 1) = some (.v (mv (b.M (k + a.nn)))) := get_ref (σ := σ) 1 _ (by decide) rfl
    have hrl : ((Rws (T.bin o a b).kids k).map mv).length + 1 ≤ 1000000 := by
      have q1 := Rws_len (T.bin o a b).kids k
      rw [List.length_map]; exact om124 hs hks q1
    have hadd := fun σ' => add_ll σ' ((Rws (T.bin o a b).kids k).map mv) [mv (madeL (putF (a.M k) (b.M (k + a.nn)) (-1)))] hrl
    cases o with
    | times =>
      simp only [if_true, e_const, e_locV, locV_some, isU_lst, isU_ref, isU_tv, e_cmp, e_tup, e_idx, e_call, e_nil, e_cons, x_ret, x_ite, x_nil, x_cons, Bool.false_eq_true, if_false, lockV_lst, unlk_ok, List.take_left, bind_ok, k_cmp1, k_cmp2, k_tup, k_idx1, k_idx2, k_call, k_cons1, k_cons2, k_ret, k_if, k_if_t, k_if_f, k_seq, k_seq_n, k_seq_r, List.getElem?_cons_zero, List.getElem?_cons_succ, fin_v, okB_some, truth_bool, constP_int, constP_str, eq_ss, get0, w_pow, w_times, T.k, Nat.reduceBEq, g0, g1, ht]
      rw [frz_pure (pair_pure _ _)]
      simp only [T.M, T.Rw, T.kids, Rws, List.append_nil]
    | over =>
      simp only [if_true, e_const, e_locV, locV_some, isU_lst, isU_ref, isU_tv, e_neg, e_cmp, e_tup, e_idx, e_call, e_nil, e_cons, x_ret, x_ite, x_nil, x_cons, Bool.false_eq_true, if_false, lockV_lst, unlk_ok, List.take_left, bind_ok, k_neg, k_cmp1, k_cmp2, k_tup, k_idx1, k_idx2, k_call, k_cons1, k_cons2, k_ret, k_if, k_if_t, k_if_f, k_seq, k_seq_n, k_seq_r, List.getElem?_cons_zero, List.getElem?_cons_succ, fin_v, okB_some, truth_bool, constP_int, constP_str, eq_ss, get0, w_pow, w_times, w_over, T.k, Nat.reduceBEq, g0, g1, ho]
      rw [frz_pure (pair_pure _ _)]
      simp only [T.M, T.Rw, T.kids, Rws, List.append_nil]
    | plus =>
      simp only [if_true, e_const, e_locV, locV_some, isU_lst, isU_ref, isU_tv, e_bin, e_neg, e_cmp, e_tup, e_lst, e_idx, e_call, e_nil, e_cons, x_assign, x_ret, x_ite, x_nil, x_cons, Bool.false_eq_true, if_false, lockV_lst, unlk_ok, box_0, val_list, Nat.pred, List.take_left, bind_ok, k_bin1, k_bin2, k_neg, k_cmp1, k_cmp2, k_tup, k_lst, k_idx1, k_idx2, k_call, k_cons1, k_cons2, k_assign, k_ret, k_if, k_if_f, k_seq, k_seq_n, k_seq_r, List.getElem?_cons_zero, List.getElem?_cons_succ, List.set_cons_zero, List.set_cons_succ, fin_v, fin_f0, okB_some, truth_bool, constP_int, constP_str, eq_ss, get0, w_pow, w_times, w_over, w_less, T.k, Nat.reduceBEq, g0, g1, ho, hadd]
      rw [show (Rws (T.bin .plus a b).kids k).map mv ++ [mv (madeL (putF (a.M k) (b.M (k + a.nn)) (-1)))] = ((T.bin .plus a b).Rw k).map mv by simp [T.Rw, T.kids, Rws], frz_pure (pair_pure _ _)]
      rfl
    | minus =>
      simp only [if_true, e_const, e_locV, locV_some, isU_lst, isU_ref, isU_tv, e_bin, e_neg, e_cmp, e_tup, e_lst, e_idx, e_call, e_nil, e_cons, x_assign, x_ret, x_ite, x_nil, x_cons, Bool.false_eq_true, if_false, lockV_lst, unlk_ok, box_0, val_list, Nat.pred, List.take_left, bind_ok, k_bin1, k_bin2, k_neg, k_cmp1, k_cmp2, k_tup, k_lst, k_idx1, k_idx2, k_call, k_cons1, k_cons2, k_assign, k_ret, k_if, k_if_f, k_seq, k_seq_n, k_seq_r, List.getElem?_cons_zero, List.getElem?_cons_succ, List.set_cons_zero, List.set_cons_succ, fin_v, fin_f0, okB_some, truth_bool, constP_int, constP_str, eq_ss, get0, w_pow, w_times, w_over, w_less, T.k, Nat.reduceBEq, g0, g1, ho, hadd]
      rw [show (Rws (T.bin .minus a b).kids k).map mv ++ [mv (madeL (putF (a.M k) (b.M (k + a.nn)) (-1)))] = ((T.bin .minus a b).Rw k).map mv by simp [T.Rw, T.kids, Rws], frz_pure (pair_pure _ _)]
      rfl
  | less a b c f =>
    have hk' : k + (a.nn + b.nn + (c.nn + f.nn)) ≤ N := hk
    have ha := M_ok hL a k hok.1 (by exact om104 hk')
    have hb := M_ok hL b (k + a.nn) hok.2.1 (by exact om103 hk')
    have hc := M_ok hL c (k + a.nn + b.nn) hok.2.2.1 (by exact om82 hk')
    have hf := M_ok hL f (k + a.nn + b.nn + c.nn) hok.2.2.2 (by exact om102 hk')
    have h2 : Two (ALet ws ls N) (a.M k) (b.M (k + a.nn)) := ⟨⟨_, b20 (by simp only [T.ht]; exact om101), ha⟩, ⟨_, b20 (by simp only [T.ht]; exact om100), hb⟩⟩
    have h3 : Two (ALet ws ls N) (c.M (k + a.nn + b.nn)) (f.M (k + a.nn + b.nn + c.nn)) := ⟨⟨_, b20 (by simp only [T.ht]; exact om81), hc⟩, ⟨_, b20 (by simp only [T.ht]; exact om99), hf⟩⟩
    have ho := fun σ' => h2.ltimes hL (n := -1) (by decide) (e + 1) σ'
    have hq := fun σ' => h3.ltimes hL (n := -1) (by decide) (e + 1) σ'
    simp only [runFn, List.length_cons, List.length_nil, Nat.reduceAdd, Nat.reduceSub, if_true, List.replicate_succ, List.replicate, List.nil_append, List.cons_append, e_const, e_locV, locV_some, isU_tv, e_cmp, e_lst, e_idx, e_call, e_nil, e_cons, x_assign, x_ite, x_for, x_nil, x_cons, Bool.false_eq_true, if_false, items_lst, lkV_lst, lockV_lst, box_0, box_1, val_list, obj_list, Nat.pred, bind_ok, k_cmp1, k_cmp2, k_lst, k_idx1, k_idx2, k_call, k_cons1, k_cons2, k_assign, k_if, k_if_f, k_for, k_forI, k_seq, k_seq_n, List.getElem?_cons_zero, List.set_cons_zero, List.set_cons_succ, fin_v, okB_some, truth_bool, constP_int, constP_str, eq_ss, Flw.out, F_law_walk, get0, w_is, w_inp, w_nou, T.k, Nat.reduceBEq, hpt]
    rw [hloop (by simp only [T.kids, nns, T.nn]; exact om98)]
    have g0 : getAt (σ ++ [AObj.list false (Ms (T.less a b c f).kids k)]) (.ref σ.length) (.int 0) = some (.v (mv (a.M k))) := get_ref (σ := σ) 0 _ (by decide) rfl
    have g1 : getAt (σ ++ [AObj.list false (Ms (T.less a b c f).kids k)]) (.ref σ.length) (.int 1) = some (.v (mv (b.M (k + a.nn)))) := get_ref (σ := σ) 1 _ (by decide) rfl
    have g2 : getAt (σ ++ [AObj.list false (Ms (T.less a b c f).kids k)]) (.ref σ.length) (.int 2) = some (.v (mv (c.M (k + a.nn + b.nn)))) := get_ref (σ := σ) 2 _ (by decide) rfl
    have g3 : getAt (σ ++ [AObj.list false (Ms (T.less a b c f).kids k)]) (.ref σ.length) (.int 3) = some (.v (mv (f.M (k + a.nn + b.nn + c.nn)))) := get_ref (σ := σ) 3 _ (by decide) rfl
    have q1 := Rws_len (T.less a b c f).kids k
    have hadd := fun σ' => add_ll σ' ((Rws (T.less a b c f).kids k).map mv) [mv (madeL (putF (a.M k) (b.M (k + a.nn)) (-1)))] (by rw [List.length_map]; show _ + 1 ≤ _; exact om124 hs hks q1)
    have hadd2 := fun σ' => add_ll σ' ((Rws (T.less a b c f).kids k).map mv ++ [mv (madeL (putF (a.M k) (b.M (k + a.nn)) (-1)))]) [mv (madeL (putF (c.M (k + a.nn + b.nn)) (f.M (k + a.nn + b.nn + c.nn)) (-1)))] (by rw [List.length_append, List.length_map]; show _ + 1 + 1 ≤ _; exact om123 hs hks q1)
    simp only [if_true, e_const, e_locV, locV_some, isU_lst, isU_ref, isU_tv, e_bin, e_neg, e_cmp, e_tup, e_lst, e_idx, e_call, e_nil, e_cons, x_assign, x_ret, x_ite, x_nil, x_cons, Bool.false_eq_true, if_false, lockV_lst, unlk_ok, box_0, val_list, Nat.pred, List.take_left, bind_ok, k_bin1, k_bin2, k_neg, k_cmp1, k_cmp2, k_tup, k_lst, k_idx1, k_idx2, k_call, k_cons1, k_cons2, k_assign, k_ret, k_if, k_if_t, k_if_f, k_seq, k_seq_n, k_seq_r, List.getElem?_cons_zero, List.getElem?_cons_succ, List.set_cons_zero, List.set_cons_succ, fin_v, fin_f0, okB_some, truth_bool, constP_int, constP_str, eq_ss, get0, w_pow, w_times, w_over, w_less, T.k, Nat.reduceBEq, g0, g1, g2, g3, ho, hq, hadd, hadd2]
    rw [show (Rws (T.less a b c f).kids k).map mv ++ [mv (madeL (putF (a.M k) (b.M (k + a.nn)) (-1)))] ++ [mv (madeL (putF (c.M (k + a.nn + b.nn)) (f.M (k + a.nn + b.nn + c.nn)) (-1)))] = ((T.less a b c f).Rw k).map mv by simp [T.Rw, T.kids, Rws], frz_pure (pair_pure _ _)]
    rfl
end Mine

set_option autoImplicit false
set_option maxRecDepth 100000
set_option linter.unusedSimpArgs false
set_option linter.unusedVariables false
namespace Mine
open PySem
theorem fn_own : G.fn "own_looker" = some F_own_looker := by rfl
theorem fn_alike : G.fn "alike" = some F_alike := by rfl
theorem fn_mof : G.fn "measure_of" = some F_measure_of := by rfl
theorem fn_init : G.fn (methK "Looker" "__init__") = some F_Looker__init := by rfl
theorem rng_map (n : Nat) : rngInts 0 n = (List.range n).map fun k : Nat => PV.int (k : Int) := by
  apply List.ext_getElem?
  intro i
  rcases Nat.lt_or_ge i n with h | h
  · obtain ⟨x, hx⟩ : ∃ x, (rngInts 0 n)[i]? = some x := ⟨_, List.getElem?_eq_getElem (by rw [rng_len]; exact h)⟩
    rw [hx, (rng_get hx).1, List.getElem?_map, List.getElem?_range h]; rfl
  · rw [List.getElem?_eq_none (by rw [rng_len]; exact h), List.getElem?_eq_none (by simp [h])]
theorem putAll_get {α : Type} (v : Str → α) : ∀ (ws : List Str) (D : List (Str × α)) (w : Str), dget (putAll v ws D) w = if w ∈ ws then some (v w) else dget D w
  | [], D, w => by simp [putAll]
  | x :: ws, D, w => by
    show dget (putAll v ws (dput D x (v x))) w = _
    rw [putAll_get v ws, dget_put]
    by_cases h : w ∈ ws
    · simp [h]
    · by_cases hx : w = x
      · subst hx; simp [h]
      · simp [h, hx]
theorem int_small {k : Nat} (h : k ≤ 1000) : ((k : Int)).natAbs < 10 ^ 40 := by
  rw [Int.natAbs_natCast]
  exact Nat.lt_of_le_of_lt h (by decide +kernel)
theorem str_len40 {i : Int} (h : i.natAbs < 10 ^ 40) : (Str.ofString (toString i)).length ≤ 41 := by
  have e := int_text_length_le10 (k := 40) (by decide) h
  rw [Str.ofString_eq_toList]
  show ((toString i).toList.map Char.toNat).toArray.size ≤ 41
  rw [List.size_toArray, List.length_map, String.length_toList]
  exact e
/-- the list of own letters -/
noncomputable def owns (n : Nat) : List PV := (List.range n).map fun k => mv (own k)
theorem owns_get {n k : Nat} (h : k < n) : (owns n)[k]? = some (mv (own k)) := by unfold owns; rw [List.getElem?_map, List.getElem?_range h]; rfl
theorem owns_len (n : Nat) : (owns n).length = n := by simp [owns]
theorem comp_owns {c : Cx} {ρ : List PV} {j n : Nat} {σ : AH} (hj : j < ρ.length) (hn : n ≤ 1000) :
    compL (ev c (.const (.bool true)) 0) (ev c (.tup (.cons (.tup (.cons (.bin .Add (.const (.str "0")) (.bi .str (.cons (.loc j) .nil))) (.cons (.const (.int 1)) .nil))) .nil)) 0) (.one j) ρ (rngInts 0 n) σ = .ok (owns n) σ := by
  rw [rng_map]
  have key : ∀ k ∈ List.range n, ∃ ρ1, bindT (.one j) (PV.int (k : Int)) ρ = some ρ1 ∧ ev c (.const (.bool true)) 0 ρ1 σ = .ok (.bool true) σ ∧ (true = true → ev c (.tup (.cons (.tup (.cons (.bin .Add (.const (.str "0")) (.bi .str (.cons (.loc j) .nil))) (.cons (.const (.int 1)) .nil))) .nil)) 0 ρ1 σ = .ok (mv (own k)) σ) := fun k hk => by
    have hk' : k ≤ 1000 := by have := List.mem_range.mp hk; exact om48 hn this
    have h1 : biP σ .str [.int (k : Int)] = some (.v (.str (Str.ofString (toString (k : Int))))) := if_pos (int_small hk')
    have h2 := add_ss σ "0" (Str.ofString (toString (k : Int))) (by have := str_len40 (int_small hk'); have h0 : ("0" : Str).length = 1 := by decide
                                                                    exact om146 this h0)
    have hr : (ρ.set j (PV.int (k : Int)))[j]? = some (.int k) := by simp [hj]
    refine ⟨_, rfl, by simp only [e_const, constP_bool], fun _ => ?_⟩
    simp only [e_const, e_locV, locV_some, isU_int, e_bin, e_tup, e_bi, e_nil, e_cons, Bool.false_eq_true, if_false, bind_ok, k_bin1, k_bin2, k_tup, k_bi, k_cons1, k_cons2, fin_v, constP_int, constP_str, hr, h1, h2]
    rfl
  rw [compL_pure (σ := σ) (fun k : Nat => PV.int (k : Int)) (fun _ => true) (fun k => mv (own k)) (List.range n) key, List.filter_eq_self.mpr (fun _ _ => rfl)]
  rfl

/-! ## a new looker -/
noncomputable def IK (σ : AH) (nd : List (Str × PV)) (l : List (Str × PV)) (tl : AH) : AH := σ ++ ([.dict false nd, .ns l, .inst "Looker" (σ.length + 1)] ++ tl)
theorem IK_len (σ : AH) (nd l : List (Str × PV)) : (IK σ nd l []).length = σ.length + 3 := by simp [IK]
theorem IK_snoc (σ : AH) (nd l : List (Str × PV)) (o : AObj) : IK σ nd l [] ++ [o] = IK σ nd l [o] := by simp [IK]
theorem IK_set (gl : Str → Option PV) (cal : Str → List PV → AH → Res PV) (σ : AH) (nd l : List (Str × PV)) (tl : AH) (x : Str) (v : PV) (hx : G.atr x = true) (hl : l.length ≤ 1000) : setattrP ⟨gl, cal, G.atr⟩ (IK σ nd l tl) (.ref (σ.length + 2)) x v = some (IK σ nd (dput l x v) tl) := by
  have h2 : (IK σ nd l tl)[σ.length + 2]? = some (.inst "Looker" (σ.length + 1)) := by simp [IK]
  have h1 : (IK σ nd l tl)[σ.length + 1]? = some (.ns l) := by simp [IK]
  have hi : instOf (IK σ nd l tl) (.ref (σ.length + 2)) = some (("Looker" : Str), σ.length + 1, l) := by
    show instAt (IK σ nd l tl) (σ.length + 2) = _
    unfold instAt
    rw [h2]
    unfold nsAt
    simp only
    rw [h1]; rfl
  unfold setattrP
  rw [hi]
  show (if (G.atr x && small l.length) = true then some ((IK σ nd l tl).set (σ.length + 1) (.ns (dput l x v))) else none) = _
  rw [if_pos (by rw [hx]; exact decide_eq_true (by exact om4 hl))]
  refine congrArg some ?_
  unfold IK
  rw [List.set_append_right _ _ (by exact om122)]
  simp only [Nat.add_sub_cancel_left, List.cons_append, List.nil_append, List.set_cons_succ, List.set_cons_zero]
theorem run_init (σ : AH) (nd : List (Str × PV)) (ow : List PV) (d : Nat) : callD G (d + 1) (methK "Looker" "__init__") [.ref (σ.length + 2), .ref σ.length, .lst ow] (IK σ nd [] []) = .ok .none (LK σ nd ow 0 []) := by
  rw [callD_s fn_init]
  have s1 := fun gl cal => IK_set gl cal σ nd [] [] "names" (.ref σ.length) rfl (by decide)
  have s2 := fun gl cal => IK_set gl cal σ nd (dput [] "names" (.ref σ.length)) [] "own" (.lst ow) rfl (by show 1 ≤ 1000; decide)
  have s3 := fun gl cal => IK_set gl cal σ nd (dput (dput [] "names" (.ref σ.length)) "own" (.lst ow)) [] "met" (.int 0) rfl (by show 2 ≤ 1000; decide)
  have s4 := fun gl cal => IK_set gl cal σ nd (dput (dput (dput [] "names" (.ref σ.length)) "own" (.lst ow)) "met" (.int 0)) [.list false []] "noted" (.ref (σ.length + 3)) rfl (by show 3 ≤ 1000; decide)
  simp only [runFn, List.length_cons, List.length_nil, Nat.reduceAdd, if_true, Nat.sub_self, List.replicate_zero, List.append_nil, e_const, e_locV, locV_some, isU_lst, isU_ref, e_lst, e_nil, x_nil, x_cons, Bool.false_eq_true, if_false, box_1, obj_list, Nat.pred, bind_ok, k_lst, k_set4, k_seq, k_seq_n, List.getElem?_cons_zero, List.getElem?_cons_succ, constP_int, Flw.out, x_setattr, k_sa1, k_sa2, F_Looker__init, s1, s2, s3, IK_len, IK_snoc, s4]
  rfl

noncomputable def namD (t : T) : List (Str × PV) := putAll (fun w => mv (nam w)) (IN t) []
/-- what the tree must be like -/
structure Fit (ws ls : List Str) (t : T) : Prop where
  ok : t.ok ws ls
  sz : t.sz ≤ 500
  ht : t.ht ≤ 20
  ws4 : ws.length ≤ 4
  wl : ∀ w ∈ ws, w.length ≤ 1000
  let' : LOk (ALet ws ls t.nn)
theorem Fit.in_ws {ws ls : List Str} {t : T} (h : Fit ws ls t) : ∀ w ∈ IN t, w ∈ ws := fun w hw => ok_inps h.ok w (IN_mem.mp hw)
theorem Fit.dd {ws ls : List Str} {t : T} (h : Fit ws ls t) : (dd t.inps).length < sortMost := by
  have h1 : (Mine.dd t.inps).length = (IN t).length := (sortS_perm _).length_eq.symm
  have h2 := IN_len (fun x hx => ok_inps h.ok x hx)
  have h3 := h.ws4
  have : 4 < sortMost := by decide
  exact om145 h1 h2 h3 this
/-- a loop that makes names -/
theorem loop_names {c : Cx} {body : PSs} {t : Tgt} {ks : List Nat} {ρ0 : List PV} {σ : AH} (all : List Str) (hl : all.length ≤ 1000)
    (hb : ∀ (w : Str) (D : List (Str × PV)), w ∈ all → D.length ≤ 1000 → ∃ ρ1 ρ2, bindT t (.str w) ρ0 = some ρ1 ∧ execs c body ρ1 (σ ++ [.dict false D]) = .ok (.next, ρ2) (σ ++ [.dict false (dput D w (mv (nam w)))]) ∧ kill ks ρ2 = ρ0) {ρ : List PV} (hρ : kill ks ρ = ρ0) :
    forL (execs c body) t ks (all.map .str) ρ (σ ++ [.dict false []]) = .ok (.next, ρ0) (σ ++ [.dict false (putAll (fun w => mv (nam w)) all [])]) := by
  refine forL_list (c := c) (body := body) (t := t) (ks := ks) PV.str (fun done => σ ++ [.dict false (putAll (fun w => mv (nam w)) done [])]) (fun _ => ρ0) all (fun done w rest he => ?_) all [] ρ hρ rfl
  have hlen : (putAll (fun w => mv (nam w)) done []).length ≤ 1000 := by
    have h1 := congrArg List.length (putAll_keys (fun w => mv (nam w)) done [])
    rw [List.length_map] at h1
    rw [h1]
    have h2 := dd_len' done []
    have h3 := congrArg List.length he
    rw [List.length_append] at h3
    simp at h2 ⊢
    exact om144 hl h3 h2
  obtain ⟨ρ1, ρ2, q1, q2, q3⟩ := hb w _ (he ▸ List.mem_append_right _ List.mem_cons_self) hlen
  exact ⟨ρ1, ρ2, q1, by rw [putAll_snoc]; exact q2, q3⟩
theorem run_own {ws ls : List Str} {t : T} (F : Fit ws ls t) (d : Nat) (σ : AH) (hd : t.ht ≤ d) : callD G (d + 3) "own_looker" [tv t] σ = .ok (.ref (σ.length + 2)) (LK σ (namD t) (owns t.nn) 0 []) := by
  have hp := ok_pure F.ok
  have hs := F.sz
  have hnn := nn_sz t
  have h1 := run_inputs t d (σ ++ [.dict false []]) hp (by exact om143 hs) hd F.dd
  have h2 := run_noughts t d (σ ++ [.dict false (namD t)]) hp (by exact om143 hs) hd
  rw [callD_s fn_own]
  simp only [runFn, List.length_cons, List.length_nil, Nat.reduceAdd, Nat.reduceSub, if_true, List.replicate_succ, List.replicate, List.nil_append, List.cons_append, e_locV, locV_some, isU_tv, e_edict, e_call, e_nil, e_cons, x_assign, x_for, x_cons, Bool.false_eq_true, if_false, items_lst, lkV_lst, lockV_lst, box_1, obj_dict, bind_ok, k_call, k_cons1, k_cons2, k_assign, k_for, k_forI, k_seq, k_seq_n, List.getElem?_cons_zero, List.set_cons_zero, List.set_cons_succ, Flw.out, F_own_looker, h1]
  rw [loop_names (ρ0 := [tv t, .ref σ.length, .undef, .undef]) (IN t) (by have := IN_len (fun x hx => ok_inps F.ok x hx); have := F.ws4; exact om142 (by assumption) this) ?_ rfl]
  · have h3 := comp_owns (c := ⟨G.const, callD G (d + 2), G.atr⟩) (ρ := [tv t, .ref σ.length, .undef, .undef]) (j := 3) (n := t.nn) (σ := σ ++ [.dict false (namD t)]) (by simp) (by exact om141 hs hnn)
    have h4 := range_0 (σ ++ [.dict false (namD t)]) (n := (t.nn : Int)) (by exact om140 hs hnn)
    have hsm : small (owns t.nn).length = true := decide_eq_true (by rw [owns_len]; exact om139 hs hnn)
    have h5 : σ ++ [AObj.dict false (namD t)] ++ [AObj.ns []] ++ [AObj.inst "Looker" (σ ++ [AObj.dict false (namD t)]).length] = IK σ (namD t) [] [] := by simp [IK]
    have h6 : (σ ++ [AObj.dict false (namD t)]).length + 1 = σ.length + 2 := by simp
    have h7 := run_init σ (namD t) (owns t.nn) (d + 1)
    show _ = _
    rw [show putAll (fun w => mv (nam w)) (IN t) [] = namD t from rfl]
    simp only [if_true, e_locV, locV_some, isU_ref, isU_tv, e_comp, e_call, e_bi, e_nil, e_cons, x_ret, x_cons, Bool.false_eq_true, if_false, items_rng, lkV_rng, lockV_lst, lockV_rng, unlk_ok, box_0, val_list, Nat.pred, bind_ok, k_comp1, k_compI, k_comp2, k_call, k_bi, k_cons1, k_cons2, k_ret, k_seq, k_seq_n, k_seq_r, List.getElem?_cons_zero, List.getElem?_cons_succ, List.set_cons_zero, List.set_cons_succ, fin_v, kill, List.foldl_cons, List.foldl_nil, tgtSlots, e_new, k_new, madeV_none, h2, h4, h3, hsm, h5, h6, h7]
  · intro w D hw hD
    have hw' := F.in_ws w hw
    have hwl := F.wl w hw'
    have h0 : ("=" : Str).length = 1 := by decide
    refine ⟨_, [tv t, .ref σ.length, .str w, .undef], rfl, ?_, rfl⟩
    have ha := add_ss (σ ++ [.dict false D]) "=" w (by exact om138 hwl h0)
    have hs := set_dP (σ := σ) (D := D) (by exact om4 hD) w (.tup [.tup [.str (("=" : Str) ++ w), .int 1]])
    simp only [e_const, e_locV, locV_some, isU_str, isU_ref, e_bin, e_tup, e_nil, e_cons, x_setitem, x_nil, x_cons, Bool.false_eq_true, if_false, bind_ok, k_bin1, k_bin2, k_tup, k_cons1, k_cons2, k_set1, k_set2, k_set3, k_set4, k_seq, k_seq_n, List.getElem?_cons_zero, List.getElem?_cons_succ, List.set_cons_zero, List.set_cons_succ, fin_v, constP_int, constP_str, ha, hs]
    rfl
theorem Fit.knows {ws ls : List Str} {t : T} (F : Fit ws ls t) : Knows (IN t) t.nn (namD t) (owns t.nn) :=
  ⟨fun w hw => by unfold namD; rw [putAll_get, if_pos hw], fun k hk => owns_get hk, by have := nn_sz t; have := F.sz; exact om137 (by assumption) this⟩
theorem ok_sub {ws ws' ls : List Str} : ∀ {t : T}, t.ok ws ls → (∀ x ∈ t.inps, x ∈ ws') → t.ok ws' ls
  | .inp w, _, h => h w (by simp [T.inps, T.nodes, T.name])
  | .nou, _, _ => trivial
  | .is _ _, h, _ => h
  | .bin o a b, h, hs => ⟨ok_sub h.1 fun x hx => hs x (kids_inps (t := .bin o a b) (x := a) (by simp [T.kids]) hx), ok_sub h.2 fun x hx => hs x (kids_inps (t := .bin o a b) (x := b) (by simp [T.kids]) hx)⟩
  | .pow a n, h, hs => ⟨ok_sub h.1 fun x hx => hs x (kids_inps (t := .pow a n) (x := a) (by simp [T.kids]) hx), h.2⟩
  | .less a b c d, h, hs => ⟨ok_sub h.1 fun x hx => hs x (kids_inps (t := .less a b c d) (x := a) (by simp [T.kids]) hx), ok_sub h.2.1 fun x hx => hs x (kids_inps (t := .less a b c d) (x := b) (by simp [T.kids]) hx), ok_sub h.2.2.1 fun x hx => hs x (kids_inps (t := .less a b c d) (x := c) (by simp [T.kids]) hx), ok_sub h.2.2.2 fun x hx => hs x (kids_inps (t := .less a b c d) (x := d) (by simp [T.kids]) hx)⟩
theorem Fit.ok' {ws ls : List Str} {t : T} (F : Fit ws ls t) : t.ok (IN t) ls := ok_sub F.ok fun x hx => IN_mem.mpr hx
theorem Fit.letI {ws ls : List Str} {t : T} (F : Fit ws ls t) : LOk (ALet (IN t) ls t.nn) := by
  have h1 : (IN t).length ≤ ws.length := IN_len (fun x hx => ok_inps F.ok x hx)
  refine ⟨?_, fun w hw => F.let'.ne w ?_⟩
  · have := F.let'.len
    unfold ALet at this ⊢
    simp only [List.length_append, List.length_map, List.length_range] at this ⊢
    exact om136 h1 this
  · unfold ALet at hw ⊢
    rcases List.mem_append.mp hw with q | q
    · rcases List.mem_append.mp q with q | q
      · exact List.mem_append_left _ (List.mem_append_left _ q)
      · obtain ⟨y, hy, rfl⟩ := List.mem_map.mp q
        exact List.mem_append_left _ (List.mem_append_right _ (List.mem_map.mpr ⟨y, F.in_ws y hy, rfl⟩))
    · exact List.mem_append_right _ q
theorem frz_LK {σ : AH} {nd : List (Str × PV)} {ow : List PV} {k : Nat} {rows : List PV} (hp : pureVs rows = true) : frz σ.length (LK σ nd ow k rows) 3 (.ref (σ.length + 3)) = some (.lst rows) :=
  (if_neg (by exact om135)).trans (by show frzO _ (LK σ nd ow k rows)[σ.length + 3]? = _; rw [LK3]; exact congrArg (Option.map PV.lst) (frzWs_pure _ _ hp))
theorem take_LK {σ : AH} {nd : List (Str × PV)} {ow : List PV} {k : Nat} {rows : List PV} : (LK σ nd ow k rows).take σ.length = σ := by simp [LK]
theorem run_alike {ws ls : List Str} {t : T} (F : Fit ws ls t) (d : Nat) (σ : AH) (hd : t.ht ≤ d) : callD G (d + 4) "alike" [tv t] σ = .ok (.lst ((t.Rw 0).map mv)) σ := by
  have h1 := run_own F d σ hd
  have h2 := run_measure F.letI (σ := σ) F.knows t d 0 [] F.ok' F.ht hd (by exact om134) (by have := F.sz; simp; exact om133 this)
  rw [callD_s fn_alike]
  simp only [runFn, List.length_cons, List.length_nil, Nat.reduceAdd, Nat.reduceSub, if_true, List.replicate_succ, List.replicate, List.nil_append, List.cons_append, e_locV, locV_some, isU_ref, isU_tv, e_call, e_nil, e_cons, x_assign, x_expr, x_ret, x_cons, Bool.false_eq_true, if_false, bind_ok, k_call, k_cons1, k_cons2, k_assign, k_expr, k_ret, k_seq, k_seq_n, k_seq_r, List.getElem?_cons_zero, List.getElem?_cons_succ, List.set_cons_zero, List.set_cons_succ, Flw.out, okV_some, e_attr, k_attr, e_umeth, k_um1, okN_some, k_um2, k_um3, F_alike, h1, LK_meth, h2, LK_noted, take_LK, frz_LK (rows_pure _)]
theorem run_mof {ws ls : List Str} {t : T} (F : Fit ws ls t) (d : Nat) (σ : AH) (hd : t.ht ≤ d) : callD G (d + 4) "measure_of" [tv t] σ = .ok (mv (t.M 0)) σ := by
  have h1 := run_own F d σ hd
  have h2 := run_measure F.letI (σ := σ) F.knows t d 0 [] F.ok' F.ht hd (by exact om134) (by have := F.sz; simp; exact om133 this)
  rw [callD_s fn_mof]
  simp only [runFn, List.length_cons, List.length_nil, Nat.reduceAdd, if_true, Nat.sub_self, List.replicate_zero, List.append_nil, List.nil_append, e_locV, locV_some, isU_tv, e_call, e_nil, e_cons, x_ret, x_cons, Bool.false_eq_true, if_false, bind_ok, k_call, k_cons1, k_cons2, k_ret, k_seq, k_seq_r, List.getElem?_cons_zero, Flw.out, e_umeth, k_um1, okN_some, k_um2, k_um3, F_measure_of, h1, LK_meth, h2, take_LK, frz_pure (mv_pure _)]
end Mine

set_option autoImplicit false
set_option maxRecDepth 100000
set_option linter.unusedSimpArgs false
set_option linter.unusedVariables false
set_option exponentiation.threshold 2000
namespace Mine
open PySem
theorem fn_small : G.fn "_law_small" = some F_law_small := by rfl
theorem fn_shared : G.fn "_law_shared" = some F_law_shared := by rfl
theorem fn_lowest : G.fn "_law_lowest" = some F_law_lowest := by rfl
theorem fn_number : G.fn "_law_number" = some F_law_number := by rfl
theorem fn_leaf : G.fn "_law_leaf" = some F_law_leaf := by rfl
theorem fn_tree : G.fn "_law_tree" = some F_law_tree := by rfl
theorem madeL_ok {ls : List Str} {B : Nat} {D : DI} (hls : ∀ w ∈ ls, w ≠ (⟨#[]⟩ : Str)) (hn : (D.map (·.1)).Nodup) (hk : ∀ k ∈ D.map (·.1), k ∈ ls) (hb : ∀ kv ∈ D, kv.2.natAbs ≤ B) : MOk ls B (madeL D) := by
  refine ⟨madeL_meas hn fun k h => hls k (hk k h), fun k h => ?_, fun kv h => ?_⟩
  · obtain ⟨kv, h1, rfl⟩ := List.mem_map.mp h
    exact hk _ (madeL_mem h1).1
  · rw [(madeL_mem h).2.1]; exact val_bd hb _
theorem idx_mod (σ : AH) {ws : List Str} (h : 1 ≤ ws.length) (h2 : ws.length ≤ 1000) (x : Int) : ∃ w, w ∈ ws ∧ getAt σ (.lst (ws.map .str)) (.int (x.fmod (ws.length : Int))) = some (.v (.str w)) := by
  obtain ⟨k, hk, e⟩ := fmod_toNat x (n := ws.length) (by exact om190 h)
  refine ⟨ws[k], List.getElem_mem hk, ?_⟩
  rw [e]
  exact idx_lst σ _ k _ (by exact om33 h2 hk) (by simp [hk])
theorem dput_bd {D : DI} {k : Str} {v : Int} {B : Nat} (h : ∀ kv ∈ D, kv.2.natAbs ≤ B) (hv : v.natAbs ≤ B) : ∀ kv ∈ dput D k v, kv.2.natAbs ≤ B := by
  intro kv hkv
  unfold dput at hkv
  split at hkv
  · obtain ⟨p, hp, rfl⟩ := List.mem_map.mp hkv
    split
    · exact hv
    · exact h p hp
  · rcases List.mem_append.mp hkv with q | q
    · exact h kv q
    · rw [List.mem_singleton.mp q]; exact hv
theorem dput_more {α : Type} (D : List (Str × α)) (k : Str) (v : α) : (dput D k v).length ≤ D.length + 1 := by unfold dput; split <;> simp
theorem run_small (cell : Int) {ls : List Str} (hl : 1 ≤ ls.length) (hl2 : ls.length ≤ 1000) (hls : ∀ w ∈ ls, w ≠ (⟨#[]⟩ : Str)) (d : Nat) (σ : AH) : ∃ m, MOk ls 20 m ∧ callD G (d + 2) "_law_small" [.int cell, .lst (ls.map .str)] σ = .ok (mv m) σ := by
  have z4 : (4 : Int) ≠ 0 := by decide
  have z5 : (5 : Int) ≠ 0 := by decide
  have z256 : (256 : Int) ≠ 0 := by decide
  have z41 : (41 : Int) ≠ 0 := by decide
  have z16 : (16 : Int) ≠ 0 := by decide
  have z9 : (9 : Int) ≠ 0 := by decide
  have z8 : (8 : Int) ≠ 0 := by decide
  have zl : ((ls.map PV.str).length : Int) ≠ 0 := by rw [List.length_map]; exact om174 hl
  obtain ⟨n, hn, en⟩ := fmod_toNat cell (n := 4) (by decide)
  have en' : cell.fmod 4 = n := en
  have hll : (ls.map PV.str).length ≤ 1000000 := by rw [List.length_map]; exact om4 hl2
  rw [callD_s fn_small]
  simp only [runFn, List.length_cons, List.length_nil, Nat.reduceAdd, Nat.reduceSub, if_true, List.replicate_succ, List.replicate, List.nil_append, List.cons_append, e_const, e_locV, locV_some, isU_int, e_bin, e_edict, e_bi, e_nil, e_cons, x_assign, x_for, x_cons, Bool.false_eq_true, if_false, items_rng, lkV_rng, lockV_rng, box_1, obj_dict, bind_ok, k_bin1, k_bin2, k_bi, k_cons1, k_cons2, k_assign, k_for, k_forI, k_seq, k_seq_n, List.getElem?_cons_zero, List.set_cons_zero, List.set_cons_succ, fin_v, constP_int, Flw.out, F_law_small, mod_ii _ _ _ z4, en', range_0 _ (show (n : Int).natAbs ≤ 1000000 by exact om189 hn)]
  have step := forL_const (body := execs ⟨G.const, callD G (d + 1), G.atr⟩ (.cons (.assign 4 0 (.call "_law_mix" (.cons (.loc 0) (.cons (.loc 3) .nil)))) (.cons (.assign 5 0 (.idx (.lst (.cons (.bin .Sub (.bin .Mod (.bin .FloorDiv (.loc 4) (.bi .len (.cons (.loc 1) .nil))) (.const (.int 5))) (.const (.int 2))) (.cons (.bin .Sub (.bin .Mod (.bin .FloorDiv (.loc 4) (.const (.int 256))) (.const (.int 41))) (.const (.int 20))) .nil))) (.bin .FloorDiv (.bin .Mod (.bin .FloorDiv (.loc 4) (.const (.int 16))) (.const (.int 9))) (.const (.int 8))))) (.cons (.setitem (.loc 2) (.idx (.loc 1) (.bin .Mod (.loc 4) (.bi .len (.cons (.loc 1) .nil)))) 0 (.loc 5)) .nil)))) (t := .one 3) (ks := [3, 4, 5])
    (ρ0 := [.int cell, .lst (ls.map .str), .ref σ.length, .undef, .undef, .undef])
    (fun k σ' => ∃ D : DI, D.length ≤ k ∧ (D.map (·.1)).Nodup ∧ (∀ x ∈ D.map (·.1), x ∈ ls) ∧ (∀ kv ∈ D, kv.2.natAbs ≤ 20) ∧ σ' = σ ++ [.dict false (dv D)]) (rngInts 0 n)
    (ρ := [.int cell, .lst (ls.map .str), .ref σ.length, .undef, .undef, .undef]) (σ := σ ++ [.dict false []]) ?_ rfl ⟨[], Nat.le_refl _, by simp, by simp, by simp, rfl⟩
  · obtain ⟨σ', h1, D, h2, h3, h4, h5, rfl⟩ := step
    rw [rng_len] at h2
    refine ⟨madeL D, madeL_ok hls h3 h4 h5, ?_⟩
    rw [h1]
    simp only [e_locV, locV_some, isU_ref, e_call, e_nil, e_cons, x_ret, x_cons, Bool.false_eq_true, if_false, lockV_rng, unlk_ok, bind_ok, k_call, k_cons1, k_cons2, k_seq, k_seq_n, List.getElem?_cons_zero, List.getElem?_cons_succ]
    have e3 := run_made (σ := σ ++ [AObj.dict false (dv D)]) (i := σ.length) (b := false) (D := D) get_snoc (Nat.lt_of_le_of_lt (show D.length ≤ 4 by exact om188 hn h2) (by decide)) d
    rw [e3]
    simp only [if_true, List.take_left, bind_ok, k_ret, k_seq, k_seq_r, frz_pure (mv_pure _)]
  · rintro k x σ' hx ⟨D, h1, h2, h3, h4, rfl⟩
    obtain ⟨rfl, hkn⟩ := rng_get hx
    have hm := run_mix cell k d (σ ++ [.dict false (dv D)])
    obtain ⟨w, hw, hi⟩ := idx_mod (σ ++ [.dict false (dv D)]) hl hl2 (mix cell k)
    rw [show (ls.length : Int) = ((ls.map PV.str).length : Int) by rw [List.length_map]] at hi
    generalize mix cell k = M at *
    have b5 := fmod_bd (M.fdiv ((ls.map PV.str).length : Int)) (n := 5) (by decide)
    have b41 := fmod_bd (M.fdiv 256) (n := 41) (by decide)
    have b9 := fmod_bd (M.fdiv 16) (n := 9) (by decide)
    have b8 : ((M.fdiv 16).fmod 9).fdiv 8 = 0 ∨ ((M.fdiv 16).fmod 9).fdiv 8 = 1 := by
      rw [Int.fdiv_eq_ediv_of_nonneg _ (by decide)]; exact om187 b9
    obtain ⟨V, hV, hg⟩ : ∃ V : Int, V.natAbs ≤ 20 ∧ ∀ σ', getAt σ' (.lst [.int ((M.fdiv ((ls.map PV.str).length : Int)).fmod 5 - 2), .int ((M.fdiv 256).fmod 41 - 20)]) (.int (((M.fdiv 16).fmod 9).fdiv 8)) = some (.v (.int V)) := by
      rcases b8 with h | h <;> rw [h]
      · exact ⟨_, by exact om186 b5, fun _ => rfl⟩
      · exact ⟨_, by exact om185 b41, fun _ => rfl⟩
    have hs := set_dv (σ := σ ++ [.dict false (dv D)]) (i := σ.length) (D := D) get_snoc (by exact om184 hn h1 hkn) w V
    rw [set_snoc] at hs
    refine ⟨_, [.int cell, .lst (ls.map .str), .ref σ.length, .int k, .int M, .int V], σ ++ [.dict false (dv (dput D w V))], rfl, ?_, rfl, ⟨dput D w V, by have := dput_more D w V; exact om183 h1 this, dput_nodup h2, fun x hx => ?_, dput_bd h4 hV, rfl⟩⟩
    · simp only [e_const, e_locV, locV_some, isU_int, isU_lst, isU_ref, e_bin, e_lst, e_idx, e_call, e_bi, e_nil, e_cons, x_assign, x_setitem, x_nil, x_cons, Bool.false_eq_true, if_false, box_0, val_list, Nat.pred, bind_ok, k_bin1, k_bin2, k_lst, k_idx1, k_idx2, k_call, k_bi, k_cons1, k_cons2, k_assign, k_set1, k_set2, k_set3, k_set4, k_seq, k_seq_n, List.getElem?_cons_zero, List.getElem?_cons_succ, List.set_cons_zero, List.set_cons_succ, fin_v, constP_int, sub_ii, hm, len_lst _ _ hll, div_ii _ _ _ zl, mod_ii _ _ _ z5, mod_ii _ _ _ zl, div_ii _ _ _ z256, mod_ii _ _ _ z41, div_ii _ _ _ z16, mod_ii _ _ _ z9, div_ii _ _ _ z8, hg, hi, hs]
    · rcases dput_mem.mp hx with rfl | q
      · exact hw
      · exact h3 x q

/-! ### the greatest common divisor, as far as it matters: not nought -/
theorem shared_loop {c : Cx} {σ : AH} : ∀ (b a : Nat), 0 < a + b → ∃ g n : Nat, 0 < g ∧ whileN (ev c (.cmp .NotEq (.loc 1) (.const (.int 0))) 0) (execs c (.cons (.assign 2 0 (.bin .Mod (.loc 0) (.loc 1))) (.cons (.assign 0 0 (.loc 1)) (.cons (.assign 1 0 (.loc 2)) .nil)))) [2] n [.int a, .int b, .undef] σ = .ok (.next, [.int g, .int 0, .undef]) σ := by
  intro b
  induction b using Nat.strongRecOn with | _ b ih => ?_
  intro a h
  rcases Nat.eq_zero_or_pos b with rfl | hb
  · refine ⟨a, 1, by assumption, ?_⟩
    rw [whileN]
    simp only [e_const, e_locV, locV_some, isU_int, e_bin, e_cmp, x_assign, x_cons, Bool.false_eq_true, if_false, Bool.not_true, bind_ok, k_bin1, k_bin2, k_cmp1, k_cmp2, List.getElem?_cons_zero, List.getElem?_cons_succ, List.set_cons_zero, List.set_cons_succ, okB_some, truth_bool, constP_int, ne_ii, kill, List.foldl_cons, List.foldl_nil, show ((((0 : Nat) : Int)) == 0) = true from rfl]
    rfl
  · have hlt : a % b < b := Nat.mod_lt _ hb
    obtain ⟨g, n, hg, hn⟩ := ih (a % b) hlt b (by exact om182 hlt)
    refine ⟨g, n + 1, hg, ?_⟩
    have hb0 : ((b : Int) == 0) = false := by simp; exact om181 hlt
    have hbz : (b : Int) ≠ 0 := by exact om180 hlt
    have hmod : (a : Int).fmod (b : Int) = ((a % b : Nat) : Int) := by rw [Int.fmod_eq_emod_of_nonneg _ (by exact om179)]; rfl
    have hk : whileN (ev c (.cmp .NotEq (.loc 1) (.const (.int 0))) 0) (execs c (.cons (.assign 2 0 (.bin .Mod (.loc 0) (.loc 1))) (.cons (.assign 0 0 (.loc 1)) (.cons (.assign 1 0 (.loc 2)) .nil)))) [2] n [.int b, .int ((a % b : Nat) : Int), .int ((a % b : Nat) : Int)] σ = whileN (ev c (.cmp .NotEq (.loc 1) (.const (.int 0))) 0) (execs c (.cons (.assign 2 0 (.bin .Mod (.loc 0) (.loc 1))) (.cons (.assign 0 0 (.loc 1)) (.cons (.assign 1 0 (.loc 2)) .nil)))) [2] n [.int b, .int ((a % b : Nat) : Int), .undef] σ := by
      cases n with
      | zero => rfl
      | succ n => rw [whileN, whileN]; rfl
    rw [whileN]
    simp only [e_const, e_locV, locV_some, isU_int, e_bin, e_cmp, x_assign, x_nil, x_cons, Bool.false_eq_true, if_false, Bool.not_false, bind_ok, k_bin1, k_bin2, k_cmp1, k_cmp2, k_assign, k_seq, k_seq_n, List.getElem?_cons_zero, List.getElem?_cons_succ, List.set_cons_zero, List.set_cons_succ, fin_v, okB_some, truth_bool, constP_int, ne_ii, kill, List.foldl_cons, List.foldl_nil, hb0, mod_ii _ _ _ hbz, hmod]
    rw [hk, hn]
theorem run_shared {a b : Nat} (h : 0 < a + b) (d : Nat) (σ : AH) : ∃ g : Nat, 0 < g ∧ callD G (d + 1) "_law_shared" [.int a, .int b] σ = .ok (.int g) σ := by
  obtain ⟨g, n, hg, hn⟩ := shared_loop (c := ⟨G.const, callD G d, G.atr⟩) (σ := σ) b a h
  refine ⟨g, hg, ?_⟩
  have hw := whileW_of hn (by simp)
  rw [callD_s fn_shared]
  simp only [runFn, List.length_cons, List.length_nil, Nat.reduceAdd, Nat.reduceSub, if_true, List.replicate_succ, List.replicate, List.nil_append, List.cons_append, x_while, x_cons, Bool.false_eq_true, if_false, Flw.out, F_law_shared]
  rw [hw]
  simp only [if_true, e_locV, locV_some, isU_int, x_ret, x_cons, Bool.false_eq_true, if_false, List.take_length, bind_ok, k_ret, k_seq, k_seq_n, k_seq_r, List.getElem?_cons_zero, frz_int]
theorem run_lowest (a : Int) {b : Int} (hb : 0 < b) (d : Nat) (σ : AH) : ∃ x y : Int, callD G (d + 2) "_law_lowest" [.int a, .int b] σ = .ok (.tup [.int x, .int y]) σ := by
  obtain ⟨g, hg, hs⟩ := run_shared (a := a.natAbs) (b := b.natAbs) (by exact om178 hb) d σ
  have h1 : ∀ i : Int, biP σ .abs [.int i] = some (.v (.int i.natAbs)) := fun _ => rfl
  have hz : (g : Int) ≠ 0 := by exact om177 hg
  have hlt : decide (b < 0) = false := by simp; exact om41 hb
  refine ⟨a.fdiv g, b.fdiv g, ?_⟩
  rw [callD_s fn_lowest]
  simp only [runFn, List.length_cons, List.length_nil, Nat.reduceAdd, Nat.reduceSub, if_true, List.replicate_succ, List.replicate, List.nil_append, List.cons_append, e_const, e_locV, locV_some, isU_int, e_bin, e_cmp, e_tup, e_call, e_bi, e_nil, e_cons, x_assign, x_ret, x_ite, x_nil, x_cons, Bool.false_eq_true, if_false, List.take_length, bind_ok, k_bin1, k_bin2, k_cmp1, k_cmp2, k_tup, k_call, k_bi, k_cons1, k_cons2, k_assign, k_ret, k_if, k_if_f, k_seq, k_seq_n, k_seq_r, List.getElem?_cons_zero, List.getElem?_cons_succ, List.set_cons_zero, List.set_cons_succ, fin_v, okB_some, truth_bool, constP_int, lt_ii, Flw.out, F_law_lowest, h1, hs, hlt, div_ii _ _ _ hz]
  rw [frz_pure rfl]
theorem run_number (cell : Int) (d : Nat) (σ : AH) : ∃ v, pureV v = true ∧ callD G (d + 3) "_law_number" [.int cell] σ = .ok v σ := by
  have z6 : (6 : Int) ≠ 0 := by decide
  have z41 : (41 : Int) ≠ 0 := by decide
  have z246 : (246 : Int) ≠ 0 := by decide
  have z5 : (5 : Int) ≠ 0 := by decide
  have b6 := fmod_bd cell (n := 6) (by decide)
  rw [callD_s fn_number]
  by_cases h4 : cell.fmod 6 < 4
  · have h4' : decide (cell.fmod 6 < 4) = true := by simpa using h4
    have b5 := fmod_bd (cell.fdiv 246) (n := 5) (by decide)
    obtain ⟨x, y, h⟩ := run_lowest ((cell.fdiv 6).fmod 41 - 20) (b := 1 + (cell.fdiv 246).fmod 5) (by exact om176 b5) d σ
    refine ⟨.tup [.int x, .int y], rfl, ?_⟩
    simp only [runFn, List.length_cons, List.length_nil, Nat.reduceAdd, if_true, Nat.sub_self, List.replicate_zero, List.append_nil, e_const, e_locV, locV_some, isU_int, e_bin, e_cmp, e_call, e_nil, e_cons, x_ret, x_ite, x_cons, Bool.false_eq_true, if_false, List.take_length, bind_ok, k_bin1, k_bin2, k_cmp1, k_cmp2, k_call, k_cons1, k_cons2, k_ret, k_if, k_if_t, k_seq, k_seq_r, List.getElem?_cons_zero, fin_v, okB_some, truth_bool, constP_int, add_ii, sub_ii, lt_ii, Flw.out, F_law_number, mod_ii _ _ _ z6, h4', div_ii _ _ _ z6, mod_ii _ _ _ z41, div_ii _ _ _ z246, mod_ii _ _ _ z5, h]
    rw [frz_pure rfl]
  · have h4' : decide (cell.fmod 6 < 4) = false := by simpa using h4
    by_cases h5 : cell.fmod 6 = 4
    · have h5' : (cell.fmod 6 == 4) = true := by simpa using h5
      refine ⟨.tup [.int 0, .int 1], rfl, ?_⟩
      simp only [runFn, List.length_cons, List.length_nil, Nat.reduceAdd, if_true, Nat.sub_self, List.replicate_zero, List.append_nil, e_const, e_locV, locV_some, isU_int, e_bin, e_cmp, e_tup, e_nil, e_cons, x_ret, x_ite, x_nil, x_cons, Bool.false_eq_true, if_false, List.take_length, bind_ok, k_bin1, k_bin2, k_cmp1, k_cmp2, k_tup, k_cons1, k_cons2, k_ret, k_if, k_if_t, k_if_f, k_seq, k_seq_n, k_seq_r, List.getElem?_cons_zero, fin_v, okB_some, truth_bool, constP_int, lt_ii, eq_ii, Flw.out, F_law_number, mod_ii _ _ _ z6, h4', h5']
      rw [frz_pure rfl]
    · have h5' : (cell.fmod 6 == 4) = false := by simpa using h5
      have p63 := pow_ii σ 6 3 (by decide)
      rw [show (6 : Int) ^ (3 : Int).toNat = 216 from by decide +kernel] at p63
      have p9 := pow_ii σ 10 9 (by decide)
      rw [show (10 : Int) ^ (9 : Int).toNat = 1000000000 from by decide +kernel] at p9
      have z216 : (216 : Int) ≠ 0 := by decide
      have m7 : IntMulOk (cell.fdiv 216) 7 := mulOk_r (by decide) (by decide)
      have m2 : IntMulOk 2 1000000000 := mulOk_l (by decide) (by decide)
      have zb : (2 : Int) * 1000000000 + 1 ≠ 0 := by decide
      have z9 : (1000000000 : Int) ≠ 0 := by decide
      have b9 := fmod_bd (cell.fdiv 6) (n := 1000000000) (by decide)
      obtain ⟨x, y, h⟩ := run_lowest ((cell.fdiv 216 * 7).fmod (2 * 1000000000 + 1) - 1000000000) (b := 1 + (cell.fdiv 6).fmod 1000000000) (by exact om175 b9) d σ
      refine ⟨.tup [.int x, .int y], rfl, ?_⟩
      simp only [runFn, List.length_cons, List.length_nil, Nat.reduceAdd, if_true, Nat.sub_self, List.replicate_zero, List.append_nil, e_const, e_locV, locV_some, isU_int, e_bin, e_cmp, e_call, e_nil, e_cons, x_ret, x_ite, x_nil, x_cons, Bool.false_eq_true, if_false, List.take_length, bind_ok, k_bin1, k_bin2, k_cmp1, k_cmp2, k_call, k_cons1, k_cons2, k_ret, k_if, k_if_f, k_seq, k_seq_n, k_seq_r, List.getElem?_cons_zero, fin_v, okB_some, truth_bool, constP_int, add_ii, sub_ii, lt_ii, eq_ii, Flw.out, F_law_number, mod_ii _ _ _ z6, h4', h5', p63, p9, div_ii _ _ _ z216, mul_ii _ _ _ m7, mul_ii _ _ _ m2, mod_ii _ _ _ zb, div_ii _ _ _ z6, mod_ii _ _ _ z9, h]
      rw [frz_pure rfl]
/-- the law's words -/
structure Wd (ws ls : List Str) : Prop where
  w1 : 1 ≤ ws.length
  w2 : ws.length ≤ 1000
  l1 : 1 ≤ ls.length
  l2 : ls.length ≤ 1000
  ne : ∀ w ∈ ls, w ≠ (⟨#[]⟩ : Str)
theorem run_leaf {ws ls : List Str} (W : Wd ws ls) (cell : Int) (d : Nat) (σ : AH) : ∃ t : T, t.ok ws ls ∧ t.ht = 1 ∧ t.sz = 1 ∧ t.nn ≤ 1 ∧ callD G (d + 4) "_law_leaf" [.int cell, .lst (ws.map .str), .lst (ls.map .str)] σ = .ok (tv t) σ := by
  have z6 : (6 : Int) ≠ 0 := by decide
  have zl : ((ws.map PV.str).length : Int) ≠ 0 := by rw [List.length_map]; have := W.w1; exact om174 this
  have hll : (ws.map PV.str).length ≤ 1000000 := by rw [List.length_map]; have := W.w2; exact om4 this
  have b6 := fmod_bd cell (n := 6) (by decide)
  rw [callD_s fn_leaf]
  by_cases h3 : cell.fmod 6 < 3
  · have h3' : decide (cell.fmod 6 < 3) = true := by simpa using h3
    obtain ⟨w, hw, hi⟩ := idx_mod σ W.w1 W.w2 (cell.fdiv 6)
    rw [show (ws.length : Int) = ((ws.map PV.str).length : Int) by rw [List.length_map]] at hi
    refine ⟨.inp w, hw, rfl, rfl, Nat.zero_le _, ?_⟩
    simp only [runFn, List.length_cons, List.length_nil, Nat.reduceAdd, Nat.reduceSub, if_true, List.replicate_succ, List.replicate, List.nil_append, List.cons_append, e_const, e_locV, locV_some, isU_int, isU_lst, e_bin, e_cmp, e_tup, e_idx, e_bi, e_nil, e_cons, x_assign, x_ret, x_ite, x_cons, Bool.false_eq_true, if_false, List.take_length, bind_ok, k_bin1, k_bin2, k_cmp1, k_cmp2, k_tup, k_idx1, k_idx2, k_bi, k_cons1, k_cons2, k_assign, k_ret, k_if, k_if_t, k_seq, k_seq_n, k_seq_r, List.getElem?_cons_zero, List.getElem?_cons_succ, List.set_cons_zero, List.set_cons_succ, fin_v, okB_some, truth_bool, constP_int, constP_str, lt_ii, Flw.out, F_law_leaf, div_ii _ _ _ z6, mod_ii _ _ _ z6, h3', len_lst _ _ hll, mod_ii _ _ _ zl, hi]
    rw [frz_pure rfl]; rfl
  · have h3' : decide (cell.fmod 6 < 3) = false := by simpa using h3
    by_cases h4 : cell.fmod 6 = 3
    · have h4' : (cell.fmod 6 == 3) = true := by simpa using h4
      refine ⟨.nou, trivial, rfl, rfl, Nat.le_refl _, ?_⟩
      simp only [runFn, List.length_cons, List.length_nil, Nat.reduceAdd, Nat.reduceSub, if_true, List.replicate_succ, List.replicate, List.nil_append, List.cons_append, e_const, e_locV, locV_some, isU_int, e_bin, e_cmp, e_tup, e_nil, e_cons, x_assign, x_ret, x_ite, x_nil, x_cons, Bool.false_eq_true, if_false, List.take_length, bind_ok, k_bin1, k_bin2, k_cmp1, k_cmp2, k_tup, k_cons1, k_cons2, k_assign, k_ret, k_if, k_if_t, k_if_f, k_seq, k_seq_n, k_seq_r, List.getElem?_cons_zero, List.set_cons_zero, List.set_cons_succ, fin_v, okB_some, truth_bool, constP_int, constP_str, lt_ii, eq_ii, Flw.out, F_law_leaf, div_ii _ _ _ z6, mod_ii _ _ _ z6, h3', h4']
      rw [frz_pure rfl]; rfl
    · have h4' : (cell.fmod 6 == 3) = false := by simpa using h4
      have hm := run_mix (cell.fdiv 6) 9 (d + 2) σ
      obtain ⟨v, hv, hn⟩ := run_number (mix (cell.fdiv 6) 9) d σ
      obtain ⟨m, hmo, hs⟩ := run_small (cell.fdiv 6) W.l1 W.l2 W.ne (d + 1) σ
      have hp : T.pure (.is v m) := hv
      refine ⟨.is v m, ⟨hv, hmo⟩, rfl, rfl, Nat.zero_le _, ?_⟩
      simp only [runFn, List.length_cons, List.length_nil, Nat.reduceAdd, Nat.reduceSub, if_true, List.replicate_succ, List.replicate, List.nil_append, List.cons_append, e_const, e_locV, locV_some, isU_int, isU_lst, e_bin, e_cmp, e_tup, e_call, e_nil, e_cons, x_assign, x_ret, x_ite, x_nil, x_cons, Bool.false_eq_true, if_false, List.take_length, bind_ok, k_bin1, k_bin2, k_cmp1, k_cmp2, k_tup, k_call, k_cons1, k_cons2, k_assign, k_ret, k_if, k_if_f, k_seq, k_seq_n, k_seq_r, List.getElem?_cons_zero, List.getElem?_cons_succ, List.set_cons_zero, List.set_cons_succ, fin_v, okB_some, truth_bool, constP_int, constP_str, lt_ii, eq_ii, Flw.out, F_law_leaf, div_ii _ _ _ z6, mod_ii _ _ _ z6, h3', h4', hm, hn, hs]
      rw [frz_pure (show pureV (.tup [.str "is", v, mv m]) = true from tv_pure hp)]; rfl

/-- leaves of a tree of a depth at most -/
noncomputable def NB : Nat → Nat
  | 0 => 1
  | 1 => 4
  | m + 2 => 2 * NB (m + 1) + 2 * NB m
noncomputable def SB : Nat → Nat
  | 0 => 1
  | m + 1 => 1 + 4 * SB m
theorem NB_pos : ∀ m, 1 ≤ NB m
  | 0 => Nat.le_refl _
  | 1 => by decide
  | m + 2 => by have := NB_pos m; simp only [NB]; exact om173 this
theorem SB_pos : ∀ m, 1 ≤ SB m
  | 0 => Nat.le_refl _
  | m + 1 => by simp only [SB]; exact om172
theorem SB_mono (m : Nat) : SB m ≤ SB (m + 1) := by simp only [SB]; exact om171
theorem op_pick (x : Int) : ∃ o : Op, ∀ σ, getAt σ (.lst [.str "plus", .str "minus", .str "times", .str "over"]) (.int (x.fmod 4)) = some (.v (.str o.word)) := by
  have := fmod_bd x (n := 4) (by decide)
  have h : x.fmod 4 = 0 ∨ x.fmod 4 = 1 ∨ x.fmod 4 = 2 ∨ x.fmod 4 = 3 := by exact om170 this
  rcases h with h | h | h | h <;> rw [h]
  · exact ⟨.plus, fun _ => rfl⟩
  · exact ⟨.minus, fun _ => rfl⟩
  · exact ⟨.times, fun _ => rfl⟩
  · exact ⟨.over, fun _ => rfl⟩
theorem run_tree {ws ls : List Str} (W : Wd ws ls) : ∀ (m : Nat) (cell D p : Int) (d : Nat) (σ : AH), D ≤ m → m + 4 ≤ d → ∃ t : T, t.ok ws ls ∧ t.ht ≤ m + 1 ∧ t.sz ≤ SB m ∧ t.nn ≤ NB m ∧ callD G (d + 1) "_law_tree" [.int cell, .int D, .tup [.lst (ws.map .str), .lst (ls.map .str)], .int p] σ = .ok (tv t) σ := by
  have z9 : (9 : Int) ≠ 0 := by decide
  have z8 : (8 : Int) ≠ 0 := by decide
  have z4 : (4 : Int) ≠ 0 := by decide
  have n0 : ∀ σ', getAt σ' (.tup [.lst (ws.map .str), .lst (ls.map .str)]) (.int 0) = some (.v (.lst (ws.map .str))) := fun _ => rfl
  have n1 : ∀ σ', getAt σ' (.tup [.lst (ws.map .str), .lst (ls.map .str)]) (.int 1) = some (.v (.lst (ls.map .str))) := fun _ => rfl
  intro m
  induction m using Nat.strongRecOn with | _ m ih => ?_
  intro cell D p d σ hD hd
  obtain ⟨e, rfl⟩ : ∃ e, d = e + 4 := ⟨d - 4, by exact om169 hd⟩
  have b9 := fmod_bd cell (n := 9) (by decide)
  have leaf : (decide (D < 1) = true ∨ decide (cell.fmod 9 < 2) = true) → ∃ t : T, t.ok ws ls ∧ t.ht ≤ m + 1 ∧ t.sz ≤ SB m ∧ t.nn ≤ NB m ∧ callD G (e + 4 + 1) "_law_tree" [.int cell, .int D, .tup [.lst (ws.map .str), .lst (ls.map .str)], .int p] σ = .ok (tv t) σ := fun hc => by
    obtain ⟨t, h1, h2, h3, h4, h5⟩ := run_leaf W (cell.fdiv 9) e σ
    refine ⟨t, h1, by exact om168 h2, by have := SB_pos m; exact om167 h3 this, by have := NB_pos m; exact om166 h4 this, ?_⟩
    rw [callD_s fn_tree]
    cases h6 : decide (D < 1) with
    | true =>
      simp only [runFn, List.length_cons, List.length_nil, Nat.reduceAdd, Nat.reduceSub, if_true, List.replicate_succ, List.replicate, List.nil_append, List.cons_append, e_const, e_locV, locV_some, isU_int, isU_tup, e_or, e_bin, e_cmp, e_idx, e_call, e_nil, e_cons, e_or2, x_assign, x_ret, x_ite, x_cons, Bool.false_eq_true, if_false, List.take_length, bind_ok, k_bin1, k_bin2, k_cmp1, k_cmp2, k_idx1, k_idx2, k_call, k_cons1, k_cons2, k_or, k_or_t, k_assign, k_ret, k_if, k_if_t, k_seq, k_seq_n, k_seq_r, List.getElem?_cons_zero, List.getElem?_cons_succ, List.set_cons_zero, List.set_cons_succ, fin_v, okB_some, truth_bool, constP_int, lt_ii, Flw.out, F_law_tree, mod_ii _ _ _ z9, h6, div_ii _ _ _ z9, n0, n1, h5]
      rw [frz_pure (tv_pure (ok_pure h1))]
    | false =>
      have h7 : decide (cell.fmod 9 < 2) = true := by rcases hc with q | q; rw [h6] at q; cases q; exact q
      simp only [runFn, List.length_cons, List.length_nil, Nat.reduceAdd, Nat.reduceSub, if_true, List.replicate_succ, List.replicate, List.nil_append, List.cons_append, e_const, e_locV, locV_some, isU_int, isU_tup, e_or, e_bin, e_cmp, e_idx, e_call, e_nil, e_cons, e_or1, e_or2, x_assign, x_ret, x_ite, x_cons, Bool.false_eq_true, if_false, List.take_length, bind_ok, k_bin1, k_bin2, k_cmp1, k_cmp2, k_idx1, k_idx2, k_call, k_cons1, k_cons2, k_or, k_or_f, k_assign, k_ret, k_if, k_if_t, k_seq, k_seq_n, k_seq_r, List.getElem?_cons_zero, List.getElem?_cons_succ, List.set_cons_zero, List.set_cons_succ, fin_v, okB_some, truth_bool, constP_int, lt_ii, Flw.out, F_law_tree, mod_ii _ _ _ z9, h6, h7, div_ii _ _ _ z9, n0, n1, h5]
      rw [frz_pure (tv_pure (ok_pure h1))]
  cases h6 : decide (D < 1) with
  | true => exact leaf (.inl h6)
  | false =>
    cases h7 : decide (cell.fmod 9 < 2) with
    | true => exact leaf (.inr h7)
    | false =>
      have hD1 : ¬ D < 1 := of_decide_eq_false h6
      obtain ⟨m1, rfl⟩ : ∃ m1, m = m1 + 1 := ⟨m - 1, by exact om165 hD hD1⟩
      have hm := fun k σ' => run_mix cell k (e + 3) σ'
      obtain ⟨a, a1, a2, a3, a4, a5⟩ := ih m1 (by exact om164) (mix cell 1) (D - 1) (p - (cell.fmod 9).fdiv 8) (e + 3) σ (by exact om163 hD) (by exact om162 hd)
      obtain ⟨b, b1, b2, b3, b4, b5⟩ := ih m1 (by exact om164) (mix cell 2) (D - 1) p (e + 3) σ (by exact om163 hD) (by exact om162 hd)
      -- two deeper
      obtain ⟨m2, hm2, hm2D, hm2n, hm2s⟩ : ∃ m2, m2 < m1 + 1 ∧ D - 2 ≤ (m2 : Int) ∧ 2 * NB m1 + 2 * NB m2 = NB (m1 + 1) ∧ SB m2 ≤ SB m1 := by
        cases m1 with
        | zero => exact ⟨0, by exact om161, by exact om160 hD, rfl, Nat.le_refl _⟩
        | succ m2 => exact ⟨m2, by exact om159, by exact om158 hD, rfl, SB_mono m2⟩
      obtain ⟨f, f1, f2, f3, f4, f5⟩ := ih m2 hm2 (mix cell 3) (D - 2) p (e + 3) σ hm2D (by exact om157 hd hm2)
      obtain ⟨g, g1, g2, g3, g4, g5⟩ := ih m2 hm2 (mix cell 4) (D - 2) p (e + 3) σ hm2D (by exact om157 hd hm2)
      have hpos := NB_pos m2
      rw [callD_s fn_tree]
      cases h8 : (cell.fmod 9 == 8) with
      | true =>
        cases hp : decide (p > 0) with
        | true =>
          have c9 := fmod_bd (cell.fdiv 9) (n := 9) (by decide)
          refine ⟨.pow a ((cell.fdiv 9).fmod 9 - 4), ⟨a1, by exact om156 c9⟩, by simp only [T.ht]; exact om155 a2, by simp only [T.sz, SB]; exact om154 a3, by simp only [T.nn]; exact om153 a4 hm2n, ?_⟩
          simp only [runFn, List.length_cons, List.length_nil, Nat.reduceAdd, Nat.reduceSub, if_true, List.replicate_succ, List.replicate, List.nil_append, List.cons_append, e_const, e_locV, locV_some, isU_int, isU_tup, isU_tv, e_and, e_or, e_bin, e_cmp, e_tup, e_call, e_nil, e_cons, e_and1, e_and2, e_or1, e_or2, x_assign, x_ret, x_ite, x_nil, x_cons, Bool.false_eq_true, if_false, List.take_length, bind_ok, k_bin1, k_bin2, k_cmp1, k_cmp2, k_tup, k_call, k_cons1, k_cons2, k_and, k_and_t, k_or, k_or_f, k_assign, k_ret, k_if, k_if_t, k_if_f, k_seq, k_seq_n, k_seq_r, List.getElem?_cons_zero, List.getElem?_cons_succ, List.set_cons_zero, List.set_cons_succ, fin_v, okB_some, truth_bool, constP_int, constP_str, sub_ii, lt_ii, gt_ii, eq_ii, Flw.out, F_law_tree, mod_ii _ _ _ z9, h6, h7, hm, div_ii _ _ _ z8, a5, h8, hp, div_ii _ _ _ z9]
          rw [frz_pure (show pureV (.tup [.str "power", tv a, .int ((cell.fdiv 9).fmod 9 - 4)]) = true from tv_pure (t := .pow a _) (show T.pure a from ok_pure a1))]; rfl
        | false =>
          have h77 : (cell.fmod 9 == 7) = false := by have := of_decide_eq_true h8; rw [this]; rfl
          obtain ⟨o, ho⟩ := op_pick (cell.fdiv 9)
          refine ⟨.bin o a b, ⟨a1, b1⟩, by simp only [T.ht]; exact om149 a2 b2, by simp only [T.sz, SB]; exact om148 a3 b3, by simp only [T.nn]; exact om147 a4 b4 hm2n, ?_⟩
          simp only [runFn, List.length_cons, List.length_nil, Nat.reduceAdd, Nat.reduceSub, if_true, List.replicate_succ, List.replicate, List.nil_append, List.cons_append, e_const, e_locV, locV_some, isU_int, isU_tup, isU_tv, e_and, e_or, e_bin, e_cmp, e_tup, e_lst, e_idx, e_call, e_nil, e_cons, e_and1, e_and2, e_or1, e_or2, x_assign, x_ret, x_ite, x_nil, x_cons, Bool.false_eq_true, if_false, box_0, val_list, Nat.pred, List.take_length, bind_ok, k_bin1, k_bin2, k_cmp1, k_cmp2, k_tup, k_lst, k_idx1, k_idx2, k_call, k_cons1, k_cons2, k_and, k_and_t, k_or, k_or_f, k_assign, k_ret, k_if, k_if_f, k_seq, k_seq_n, k_seq_r, List.getElem?_cons_zero, List.getElem?_cons_succ, List.set_cons_zero, List.set_cons_succ, fin_v, okB_some, truth_bool, constP_int, constP_str, sub_ii, lt_ii, gt_ii, eq_ii, Flw.out, F_law_tree, mod_ii _ _ _ z9, h6, h7, hm, div_ii _ _ _ z8, a5, b5, h8, hp, h77, div_ii _ _ _ z9, mod_ii _ _ _ z4, ho]
          rw [frz_pure (show pureV (.tup [.str o.word, tv a, tv b]) = true from tv_pure (t := .bin o a b) ⟨ok_pure a1, ok_pure b1⟩)]; rfl
      | false =>
        cases h77 : (cell.fmod 9 == 7) with
        | true =>
          refine ⟨.less a b f g, ⟨a1, b1, f1, g1⟩, by simp only [T.ht]; exact om152 a2 b2 hm2 f2 g2, by simp only [T.sz, SB]; exact om151 a3 b3 hm2s f3 g3, by simp only [T.nn]; exact om150 a4 b4 hm2n f4 g4, ?_⟩
          simp only [runFn, List.length_cons, List.length_nil, Nat.reduceAdd, Nat.reduceSub, if_true, List.replicate_succ, List.replicate, List.nil_append, List.cons_append, e_const, e_locV, locV_some, isU_int, isU_tup, isU_tv, e_and, e_or, e_bin, e_cmp, e_tup, e_call, e_nil, e_cons, e_and2, e_or1, e_or2, x_assign, x_ret, x_ite, x_nil, x_cons, Bool.false_eq_true, if_false, List.take_length, bind_ok, k_bin1, k_bin2, k_cmp1, k_cmp2, k_tup, k_call, k_cons1, k_cons2, k_and, k_and_f, k_or, k_or_f, k_assign, k_ret, k_if, k_if_t, k_if_f, k_seq, k_seq_n, k_seq_r, List.getElem?_cons_zero, List.getElem?_cons_succ, List.set_cons_zero, List.set_cons_succ, fin_v, okB_some, truth_bool, constP_int, constP_str, sub_ii, lt_ii, eq_ii, Flw.out, F_law_tree, mod_ii _ _ _ z9, h6, h7, hm, div_ii _ _ _ z8, a5, b5, f5, g5, h8, h77]
          rw [frz_pure (show pureV (.tup [.str "less", tv a, tv b, tv f, tv g]) = true from tv_pure (t := .less a b f g) ⟨ok_pure a1, ok_pure b1, ok_pure f1, ok_pure g1⟩)]; rfl
        | false =>
          obtain ⟨o, ho⟩ := op_pick (cell.fdiv 9)
          refine ⟨.bin o a b, ⟨a1, b1⟩, by simp only [T.ht]; exact om149 a2 b2, by simp only [T.sz, SB]; exact om148 a3 b3, by simp only [T.nn]; exact om147 a4 b4 hm2n, ?_⟩
          simp only [runFn, List.length_cons, List.length_nil, Nat.reduceAdd, Nat.reduceSub, if_true, List.replicate_succ, List.replicate, List.nil_append, List.cons_append, e_const, e_locV, locV_some, isU_int, isU_tup, isU_tv, e_and, e_or, e_bin, e_cmp, e_tup, e_lst, e_idx, e_call, e_nil, e_cons, e_and2, e_or1, e_or2, x_assign, x_ret, x_ite, x_nil, x_cons, Bool.false_eq_true, if_false, box_0, val_list, Nat.pred, List.take_length, bind_ok, k_bin1, k_bin2, k_cmp1, k_cmp2, k_tup, k_lst, k_idx1, k_idx2, k_call, k_cons1, k_cons2, k_and, k_and_f, k_or, k_or_f, k_assign, k_ret, k_if, k_if_f, k_seq, k_seq_n, k_seq_r, List.getElem?_cons_zero, List.getElem?_cons_succ, List.set_cons_zero, List.set_cons_succ, fin_v, okB_some, truth_bool, constP_int, constP_str, sub_ii, lt_ii, eq_ii, Flw.out, F_law_tree, mod_ii _ _ _ z9, h6, h7, hm, div_ii _ _ _ z8, a5, b5, h8, h77, div_ii _ _ _ z9, mod_ii _ _ _ z4, ho]
          rw [frz_pure (show pureV (.tup [.str o.word, tv a, tv b]) = true from tv_pure (t := .bin o a b) ⟨ok_pure a1, ok_pure b1⟩)]; rfl
end Mine

set_option autoImplicit false
set_option maxRecDepth 100000
set_option linter.unusedSimpArgs false
set_option linter.unusedVariables false
set_option exponentiation.threshold 2000
namespace Mine
open PySem
theorem Rw_ok {ws ls : List Str} {N : Nat} (hL : LOk (ALet ws ls N)) : ∀ (t : T) (k : Nat), t.ok ws ls → k + t.nn ≤ N → ∀ m ∈ t.Rw k, Meas m
  | .is _ _, _, _, _ => fun _ q => nomatch q
  | .inp _, _, _, _ => fun _ q => nomatch q
  | .nou, _, _, _ => fun _ q => nomatch q
  | .bin o a b, k, h, hk => by
    have hk' : k + (a.nn + b.nn) ≤ N := hk
    have ha := Rw_ok hL a k h.1 (by exact om89 hk')
    have hb := Rw_ok hL b (k + a.nn) h.2 (by exact om88 hk')
    have ma := M_ok hL a k h.1 (by exact om89 hk')
    have mb := M_ok hL b (k + a.nn) h.2 (by exact om88 hk')
    have ho := (put_ok hL (n := -1) ma.meas.nodup ma.keys ma.bd mb (Nat.le_refl _)).meas
    intro m hm
    cases o with
    | times => rcases List.mem_append.mp hm with q | q; exact ha m q; exact hb m q
    | over => rcases List.mem_append.mp hm with q | q; exact ha m q; exact hb m q
    | plus =>
      rcases List.mem_append.mp hm with q | q
      · rcases List.mem_append.mp q with q | q; exact ha m q; exact hb m q
      · rw [List.mem_singleton.mp q]; exact ho
    | minus =>
      rcases List.mem_append.mp hm with q | q
      · rcases List.mem_append.mp q with q | q; exact ha m q; exact hb m q
      · rw [List.mem_singleton.mp q]; exact ho
  | .pow a n, k, h, hk => Rw_ok hL a k h.1 hk
  | .less a b c d, k, h, hk => by
    have hk' : k + (a.nn + b.nn + (c.nn + d.nn)) ≤ N := hk
    have ha := Rw_ok hL a k h.1 (by exact om104 hk')
    have hb := Rw_ok hL b (k + a.nn) h.2.1 (by exact om103 hk')
    have hc := Rw_ok hL c (k + a.nn + b.nn) h.2.2.1 (by exact om82 hk')
    have hd := Rw_ok hL d (k + a.nn + b.nn + c.nn) h.2.2.2 (by exact om102 hk')
    have ma := M_ok hL a k h.1 (by exact om104 hk')
    have mb := M_ok hL b (k + a.nn) h.2.1 (by exact om103 hk')
    have mc := M_ok hL c (k + a.nn + b.nn) h.2.2.1 (by exact om82 hk')
    have md := M_ok hL d (k + a.nn + b.nn + c.nn) h.2.2.2 (by exact om102 hk')
    have ho := (put_ok hL (n := -1) ma.meas.nodup ma.keys ma.bd mb (Nat.le_refl _)).meas
    have ho2 := (put_ok hL (n := -1) mc.meas.nodup mc.keys mc.bd md (Nat.le_refl _)).meas
    intro m hm
    simp only [T.Rw, List.mem_append, List.mem_singleton] at hm
    rcases hm with (((((q | q) | q) | q) | q) | q)
    · exact ha m q
    · exact hb m q
    · exact hc m q
    · exact hd m q
    · rw [q]; exact ho
    · rw [q]; exact ho2
theorem rows_plain (l : List DI) : plain (.lst (l.map mv)) = true := by
  unfold plain
  rw [show pureV (.lst (l.map mv)) = true from rows_pure l]
  have : deep (.lst (l.map mv)) ≤ 3 := by
    show deeps (l.map mv) + 1 ≤ 3
    have := deeps_le (n := 2) (l := l.map mv) fun v hv => by obtain ⟨x, _, rfl⟩ := List.mem_map.mp hv; exact mv_deep x
    exact om203 this
  exact decide_eq_true (by exact om202 this)
theorem ne_rows (σ : AH) (l : List DI) : cmpP σ .NotEq (.lst (l.map mv)) (.lst (l.map mv)) = some false := by
  show (eqV (.lst (l.map mv)) (.lst (l.map mv))).map (!·) = some false
  unfold eqV
  rw [rows_plain, pvEq_refl _ (show pureV (.lst (l.map mv)) = true from rows_pure l)]; rfl
theorem eq_mv (σ : AH) (x : DI) : cmpP σ .Eq (mv x) (mv x) = some true := by
  show eqV (mv x) (mv x) = some true
  unfold eqV
  rw [mv_plain, pvEq_refl _ (mv_pure x)]; rfl
theorem isl_lst (σ : AH) (l : List PV) : biP σ (.isinst .list) [.lst l] = some (.v (.bool true)) := rfl
theorem op3_pick (x : Int) : ∃ o : Op, ∀ σ, getAt σ (.lst [.str "plus", .str "minus", .str "times"]) (.int (x.fmod 3)) = some (.v (.str o.word)) := by
  have := fmod_bd x (n := 3) (by decide)
  have h : x.fmod 3 = 0 ∨ x.fmod 3 = 1 ∨ x.fmod 3 = 2 := by exact om201 this
  rcases h with h | h | h <;> rw [h]
  · exact ⟨.plus, fun _ => rfl⟩
  · exact ⟨.minus, fun _ => rfl⟩
  · exact ⟨.times, fun _ => rfl⟩
theorem dep_pick (x : Int) : ∃ D : Int, D ≤ (3 : Nat) ∧ ∀ σ, getAt σ (.lst [.int 1, .int 2, .int 3, .int 3]) (.int (x.fmod 4)) = some (.v (.int D)) := by
  have := fmod_bd x (n := 4) (by decide)
  have h : x.fmod 4 = 0 ∨ x.fmod 4 = 1 ∨ x.fmod 4 = 2 ∨ x.fmod 4 = 3 := by exact om170 this
  rcases h with h | h | h | h <;> rw [h]
  · exact ⟨1, by decide, fun _ => rfl⟩
  · exact ⟨2, by decide, fun _ => rfl⟩
  · exact ⟨3, by decide, fun _ => rfl⟩
  · exact ⟨3, by decide, fun _ => rfl⟩
theorem upto_pick (x : Int) : ∃ U : Int, 0 ≤ U ∧ U ≤ 10 ∧ ∀ σ, getAt σ (.lst [.int 4, .int 10]) (.int (x.fmod 2)) = some (.v (.int U)) := by
  have := fmod_bd x (n := 2) (by decide)
  have h : x.fmod 2 = 0 ∨ x.fmod 2 = 1 := by exact om200 this
  rcases h with h | h <;> rw [h]
  · exact ⟨4, by decide, by decide, fun _ => rfl⟩
  · exact ⟨10, by decide, by decide, fun _ => rfl⟩
theorem min_ii (σ : AH) (a b : Int) : biP σ .min2 [.int a, .int b] = some (.v (.int (if b < a then b else a))) := rfl
theorem int_b (σ : AH) (b : Bool) : biP σ .int [.bool b] = some (.v (.int (if b then 1 else 0))) := rfl
theorem range2_ii (σ : AH) {a n : Int} (h1 : n.natAbs ≤ 1000000) (h2 : a.natAbs ≤ 1000000) : biP σ .range2 [.int a, .int n] = some (.v (.rng a n)) := if_pos ⟨h1, h2⟩
/-- all that is known of the tree behind the loop -/
structure Grown (ws ls : List Str) (j : Nat) (t : T) : Prop where
  ok : t.ok ws ls
  ht : t.ht ≤ 4 + j
  sz : t.sz ≤ 85 + 2 * j
  nn : t.nn ≤ 28 + j
theorem Grown.fit {ws ls : List Str} {t : T} {j : Nat} (h : Grown ws ls j t) (hj : j ≤ 6) (hw : ws.length = 4) (hl : ls.length = 3) (gw : ∀ w ∈ ws, good w) (gl : ∀ w ∈ ls, good w) : Fit ws ls t := by
  refine ⟨h.ok, by have := h.sz; exact om199 hj this, by have := h.ht; exact om198 hj this, by exact om197 hw, fun w q => by have := (gw w q).2; exact om196 this, ⟨?_, fun w q => ?_⟩⟩
  · unfold ALet
    simp only [List.length_append, List.length_map, List.length_range]
    have := h.nn
    exact Nat.lt_of_le_of_lt (show _ ≤ 41 by exact om195 hj hw hl this) (by decide)
  · unfold ALet at q
    rcases List.mem_append.mp q with q | q
    · rcases List.mem_append.mp q with q | q
      · exact (gl w q).ne
      · obtain ⟨y, _, rfl⟩ := List.mem_map.mp q; exact app_ne (by decide)
    · obtain ⟨y, _, rfl⟩ := List.mem_map.mp q; exact app_ne (by decide)
theorem loop_tree {ws ls : List Str} (W : Wd ws ls) {d : Nat} {a0 a4 : PV} {rest : List PV} : ∀ (cs : List Int) (j : Nat) (t : T) (v : PV), Grown ws ls j t →
    ∃ t', Grown ws ls (j + cs.length) t' ∧ forL (execs ⟨G.const, callD G (d + 4), G.atr⟩ (.cons (.assign 3 0 (.tup (.cons (.idx (.lst (.cons (.const (.str "plus")) (.cons (.const (.str "minus")) (.cons (.const (.str "times")) .nil)))) (.bin .Mod (.loc 5) (.const (.int 3)))) (.cons (.call "_law_leaf" (.cons (.bin .FloorDiv (.loc 5) (.const (.int 3))) (.cons (.loc 1) (.cons (.loc 2) .nil)))) (.cons (.loc 3) .nil))))) .nil)) (.one 5) [5] (cs.map .int) (a0 :: .lst (ws.map .str) :: .lst (ls.map .str) :: tv t :: a4 :: v :: rest) [] = .ok (.next, a0 :: .lst (ws.map .str) :: .lst (ls.map .str) :: tv t' :: a4 :: .undef :: rest) []
  | [], j, t, v, h => ⟨t, h, rfl⟩
  | c :: cs, j, t, v, h => by
    have z3 : (3 : Int) ≠ 0 := by decide
    obtain ⟨lf, l1, l2, l3, l4, l5⟩ := run_leaf W (c.fdiv 3) d []
    obtain ⟨o, ho⟩ := op3_pick c
    have hg : Grown ws ls (j + 1) (.bin o lf t) := ⟨⟨l1, h.ok⟩, by have := h.ht; simp only [T.ht]; exact om194 l2 this, by have := h.sz; simp only [T.sz]; exact om193 l3 this, by have := h.nn; simp only [T.nn]; exact om192 l4 this⟩
    obtain ⟨t', h1, h2⟩ := loop_tree W (d := d) (a0 := a0) (a4 := a4) (rest := rest) cs (j + 1) (.bin o lf t) (.int c) hg
    refine ⟨t', by rw [List.length_cons, show j + (cs.length + 1) = j + 1 + cs.length by exact om191]; exact h1, ?_⟩
    rw [List.map_cons, forL_step (ρ1 := a0 :: .lst (ws.map .str) :: .lst (ls.map .str) :: tv t :: a4 :: .int c :: rest) (ρ2 := a0 :: .lst (ws.map .str) :: .lst (ls.map .str) :: tv (.bin o lf t) :: a4 :: .int c :: rest) (σ2 := []) rfl ?_]
    · exact h2
    · simp only [e_const, e_locV, locV_some, isU_int, isU_lst, isU_tv, e_bin, e_tup, e_lst, e_idx, e_call, e_nil, e_cons, x_assign, x_nil, x_cons, Bool.false_eq_true, if_false, box_0, val_list, Nat.pred, bind_ok, k_bin1, k_bin2, k_tup, k_lst, k_idx1, k_idx2, k_call, k_cons1, k_cons2, k_assign, k_seq, k_seq_n, List.getElem?_cons_zero, List.getElem?_cons_succ, List.set_cons_zero, List.set_cons_succ, fin_v, constP_int, constP_str, mod_ii _ _ _ z3, div_ii _ _ _ z3, ho, l5]
      rfl
end Mine

set_option autoImplicit false
set_option maxRecDepth 100000
set_option linter.unusedSimpArgs false
set_option linter.unusedVariables false
set_option exponentiation.threshold 2000
namespace Mine
open PySem
theorem rng_from (a : Nat) (U : Int) : rngInts a U = (List.range (U - a).toNat).map fun k : Nat => PV.int ((a + k : Nat) : Int) := by
  unfold rngInts
  apply List.map_congr_left
  intro k _
  simp
theorem loop_rows {ws ls : List Str} {t : T} (F : Fit ws ls t) {d : Nat} {σ : AH} {ρ : List PV} {body : PSs} (rows : List DI) (hr : ∀ m ∈ rows, Meas m) (ρ0 : List PV) (hk : kill [11] ρ = ρ0)
    (hb : ∀ m ∈ rows, ∃ ρ1 ρ2, bindT (.one 11) (mv m) ρ0 = some ρ1 ∧ execs ⟨G.const, callD G (d + 2), G.atr⟩ body ρ1 σ = .ok (.next, ρ2) σ ∧ kill [11] ρ2 = ρ0) :
    forL (execs ⟨G.const, callD G (d + 2), G.atr⟩ body) (.one 11) [11] (rows.map mv) ρ σ = .ok (.next, ρ0) σ :=
  forL_list (c := ⟨G.const, callD G (d + 2), G.atr⟩) (body := body) (t := .one 11) (ks := [11]) mv (fun _ => σ) (fun _ => ρ0) rows (fun done x rest he => hb x (he ▸ List.mem_append_right _ List.mem_cons_self)) rows [] ρ hk rfl
theorem plain07 (ns : List Int) (h : ns.length ≤ 63) : callD G 41 "law" [.lst (ns.map .int)] [] = .ok (.bool true) [] := by
  have z3 : (3 : Int) ≠ 0 := by decide
  have z4 : (4 : Int) ≠ 0 := by decide
  have z2 : (2 : Int) ≠ 0 := by decide
  have hnl : (ns.map PV.int).length ≤ 1000000 := by rw [List.length_map]; exact om5 h
  have c0 : ∀ σ, callD G 40 "_law_cell_at" [.lst (ns.map .int), .int 0] σ = .ok (.int (cellAt ns 0)) σ := fun σ => cell_at h 0 (by decide) 39 σ
  have c1 : ∀ σ, callD G 40 "_law_cell_at" [.lst (ns.map .int), .int 1] σ = .ok (.int (cellAt ns 1)) σ := fun σ => cell_at h 1 (by decide) 39 σ
  have c2 : ∀ σ, callD G 40 "_law_cell_at" [.lst (ns.map .int), .int 2] σ = .ok (.int (cellAt ns 2)) σ := fun σ => cell_at h 2 (by decide) 39 σ
  have c3 : ∀ σ, callD G 40 "_law_cell_at" [.lst (ns.map .int), .int 3] σ = .ok (.int (cellAt ns 3)) σ := fun σ => cell_at h 3 (by decide) 39 σ
  obtain ⟨ws, hw1, hw2, hw3⟩ := run_words (cellAt ns 0) 4 (by decide) 39 []
  obtain ⟨kb, hkb⟩ : ∃ kb : Int, callD G 40 "_law_cell_at" [.lst (ns.map .int), .int (if decide ((cellAt ns 1).fmod 3 > 0) then 1 else 0)] [] = .ok (.int kb) [] := by
    cases decide ((cellAt ns 1).fmod 3 > 0) with
    | true => exact ⟨_, c1 []⟩
    | false => exact ⟨_, c0 []⟩
  obtain ⟨ls, hl1, hl2, hl3⟩ := run_words kb 3 (by decide) 39 []
  have W : Wd ws ls := ⟨by exact om219 hw1, by exact om218 hw1, by exact om217 hl1, by exact om216 hl1, fun w q => (hl2 w q).ne⟩
  obtain ⟨D, hD, hDp⟩ := dep_pick (cellAt ns 3)
  obtain ⟨t0, t1, t2, t3, t4, t5⟩ := run_tree W 3 (cellAt ns 2) D 2 39 [] hD (by decide)
  obtain ⟨U, hU0, hU, hUp⟩ := upto_pick ((cellAt ns 3).fdiv 4)
  have hw3' : callD G 40 "_law_words" [.int (cellAt ns 0), .int 4] [] = .ok (.lst (ws.map .str)) [] := hw3
  have hl3' : callD G 40 "_law_words" [.int kb, .int 3] [] = .ok (.lst (ls.map .str)) [] := hl3
  rw [callD_s fn_law]
  simp only [runFn, List.length_cons, List.length_nil, Nat.reduceAdd, Nat.reduceSub, if_true, List.replicate_succ, List.replicate, List.nil_append, List.cons_append, e_const, e_locV, locV_some, isU_int, isU_lst, e_bin, e_cmp, e_tup, e_lst, e_idx, e_comp, e_call, e_bi, e_nil, e_cons, x_assign, x_for, x_cons, Bool.false_eq_true, if_false, box_0, val_list, Nat.pred, bind_ok, k_bin1, k_bin2, k_cmp1, k_cmp2, k_tup, k_lst, k_idx1, k_idx2, k_call, k_bi, k_cons1, k_cons2, k_assign, k_seq, k_seq_n, List.getElem?_cons_zero, List.getElem?_cons_succ, List.set_cons_zero, List.set_cons_succ, fin_v, okB_some, constP_int, gt_ii, Flw.out, F_law, c0, c1, c2, c3, mod_ii _ _ _ z3, int_b, hkb, hw3', hl3', mod_ii _ _ _ z4, hDp, t5, len_lst _ _ hnl, div_ii _ _ _ z4, mod_ii _ _ _ z2, hUp, min_ii]
  generalize hV : (if U < ((ns.map PV.int).length : Int) then U else ((ns.map PV.int).length : Int)) = V
  have hVb : 0 ≤ V ∧ V ≤ 10 := by rw [← hV]; split <;> (first | exact om214 hU0 hU | exact om215 hU (by assumption))
  simp only [items_rng, lkV_rng, lockV_rng, Nat.pred, bind_ok, k_comp1, k_compI, List.set_cons_zero, List.set_cons_succ, fin_v, kill, List.foldl_cons, List.foldl_nil, tgtSlots, range2_ii _ (show V.natAbs ≤ 1000000 by exact om213 hVb) (show (4 : Int).natAbs ≤ 1000000 by decide)]
  rw [show rngInts 4 V = (List.range (V - (4 : Nat)).toNat).map (fun k : Nat => PV.int ((4 + k : Nat) : Int)) from rng_from 4 V]
  rw [compL_pure (σ := []) (fun k : Nat => PV.int ((4 + k : Nat) : Int)) (fun _ => true) (fun k => .int (cellAt ns (4 + k))) (List.range (V - (4 : Nat)).toNat) fun k hk => ⟨_, rfl, by simp only [e_const, List.set_cons_zero, List.set_cons_succ, constP_bool], fun _ => by
    have hk' := List.mem_range.mp hk
    simp only [e_locV, locV_some, isU_int, isU_lst, e_call, e_nil, e_cons, Bool.false_eq_true, if_false, bind_ok, k_call, k_cons1, k_cons2, List.getElem?_cons_zero, List.getElem?_cons_succ, List.set_cons_zero, List.set_cons_succ]
    exact cell_at h (4 + k) (by exact om212 hVb hk') 39 []⟩]
  rw [List.filter_eq_self.mpr (fun _ _ => rfl), show (List.range (V - (4 : Nat)).toNat).map (fun k => PV.int (cellAt ns (4 + k))) = ((List.range (V - (4 : Nat)).toNat).map (fun k => cellAt ns (4 + k))).map .int by rw [List.map_map]; rfl]
  generalize hcs : (List.range (V - (4 : Nat)).toNat).map (fun k => cellAt ns (4 + k)) = cs
  have hcl : cs.length ≤ 6 := by rw [← hcs, List.length_map, List.length_range]; exact om211 hVb
  have hsm : small (cs.map PV.int).length = true := decide_eq_true (by rw [List.length_map]; exact om210 hcl)
  simp only [if_true, items_lst, lkV_lst, lockV_lst, lockV_rng, unlk_ok, box_0, val_list, bind_ok, k_comp2, k_for, k_forI, hsm]
  obtain ⟨t, hg, hlp⟩ := loop_tree W (d := 36) (a0 := .lst (ns.map .int)) (a4 := .int V) (rest := [.undef, .undef, .undef, .undef, .undef, .undef, .undef, .undef, .undef]) cs 0 t0 .undef ⟨t1, by assumption, t3, t4⟩
  rw [hlp]
  rw [Nat.zero_add] at hg
  have F := hg.fit hcl hw1 hl1 hw2 hl2
  have hp := ok_pure F.ok
  have hht : t.ht ≤ 20 := F.ht
  have hnn := nn_sz t
  have hsz := F.sz
  have li := fun σ => run_linputs (ws := ws) (by exact om197 hw1) t 39 σ hp (by exact om208 hht) (fun x hx => ok_inps F.ok x hx)
  simp only [List.length_nil, List.nil_append, e_locV, locV_some, isU_tv, e_edict, e_call, e_nil, e_cons, x_assign, x_for, x_cons, Bool.false_eq_true, if_false, items_lst, lkV_lst, lockV_lst, unlk_ok, box_1, obj_dict, bind_ok, k_call, k_cons1, k_cons2, k_assign, k_for, k_forI, k_seq, k_seq_n, List.getElem?_cons_zero, List.getElem?_cons_succ, List.set_cons_zero, List.set_cons_succ, li]
  rw [show ([AObj.dict false []] : AH) = [] ++ [AObj.dict false []] from rfl, loop_names (σ := []) (ρ0 := [.lst (ns.map .int), .lst (ws.map .str), .lst (ls.map .str), tv t, .int V, .undef, .ref 0, .undef, .undef, .undef, .undef, .undef, .undef, .undef, .undef]) (IN t) (by have := IN_len (fun x hx => ok_inps F.ok x hx); exact om209 hw1 this) ?_ rfl]
  · rw [show putAll (fun w => mv (nam w)) (IN t) [] = namD t from rfl]
    have ln := fun σ => run_lnoughts t 39 σ hp (by exact om208 hht)
    have h3 := comp_owns (c := ⟨G.const, callD G 40, G.atr⟩) (ρ := [.lst (ns.map .int), .lst (ws.map .str), .lst (ls.map .str), tv t, .int V, .undef, .ref 0, .undef, .undef, .undef, .undef, .undef, .undef, .undef, .undef]) (j := 14) (n := t.nn) (σ := [] ++ [.dict false (namD t)]) (by simp) (by exact om137 hnn hsz)
    have h4 := range_0 ([] ++ [.dict false (namD t)]) (n := (t.nn : Int)) (by exact om207 hnn hsz)
    have hso : small (owns t.nn).length = true := decide_eq_true (by rw [owns_len]; exact om206 hnn hsz)
    have hwk := run_walk F.letI (ow := owns t.nn) (by exact om137 hnn hsz) (by rw [owns_len]; exact om137 hnn hsz) (fun k hk => owns_get hk) (i := 0) t 37 0 ([] ++ [.dict false (namD t)]) ⟨namD t, false, rfl, F.knows.names⟩ F.ok' F.ht (by exact om205 hht) (by exact om134) (by exact om143 hsz)
    rw [List.drop_zero] at hwk
    have hal := run_alike F 36 ([] ++ [.dict false (namD t)]) (by exact om204 hht)
    have hmo := run_mof F 36 ([] ++ [.dict false (namD t)]) (by exact om204 hht)
    have hrw := Rw_ok F.letI t 0 F.ok' (by exact om134)
    have him := fun (m : DI) (hm : Meas m) => run_ism hm 38 ([] ++ [.dict false (namD t)])
    have hM := M_ok F.letI t 0 F.ok' (by exact om134)
    simp only [List.nil_append] at h3 h4 hwk hal hmo him
    simp only [List.length_cons, List.length_nil, Nat.reduceAdd, if_true, List.nil_append, e_locV, locV_some, isU_lst, isU_ref, isU_tv, e_or, e_not, e_cmp, e_comp, e_call, e_bi, e_nil, e_cons, e_or1, e_or2, x_assign, x_assignT, x_ite, x_for, x_nil, x_cons, Bool.false_eq_true, if_false, items_lst, items_rng, lkV_lst, lkV_rng, lockV_lst, lockV_rng, unlk_ok, box_0, val_list, Nat.pred, Option.map_some, Bool.not_true, bind_ok, k_not, k_cmp1, k_cmp2, k_comp1, k_compI, k_comp2, k_call, k_bi, k_cons1, k_cons2, k_or, k_or_f, k_assign, k_if, k_if_f, k_for, k_forI, k_seq, k_seq_n, List.getElem?_cons_zero, List.getElem?_cons_succ, List.set_cons_zero, List.set_cons_succ, fin_v, okB_some, truth_bool, kill, List.foldl_cons, List.foldl_nil, setAll, bindT, tgtSlots, k_asT, k_asT2, ln, h4, h3, hso, hwk, hal, isl_lst, ne_rows]
    rw [loop_rows F (d := 38) (σ := [AObj.dict false (namD t)]) (t.Rw 0) hrw [.lst (ns.map .int), .lst (ws.map .str), .lst (ls.map .str), tv t, .int V, .undef, .ref 0, .undef, mv (t.M 0), .lst ((t.Rw 0).map mv), .lst ((t.Rw 0).map mv), .undef, .undef, .undef, .undef] rfl fun m hm => ⟨_, [.lst (ns.map .int), .lst (ws.map .str), .lst (ls.map .str), tv t, .int V, .undef, .ref 0, .undef, mv (t.M 0), .lst ((t.Rw 0).map mv), .lst ((t.Rw 0).map mv), mv m, .undef, .undef, .undef], rfl, by
      simp only [Nat.reduceAdd, e_locV, locV_some, isU_mv, e_not, e_call, e_nil, e_cons, x_ite, x_nil, x_cons, Bool.false_eq_true, if_false, Option.map_some, Bool.not_true, bind_ok, k_not, k_call, k_cons1, k_cons2, k_if, k_if_f, k_seq, k_seq_n, List.getElem?_cons_zero, List.getElem?_cons_succ, List.set_cons_zero, List.set_cons_succ, okB_some, truth_bool, him m (hrw m hm)], rfl⟩]
    simp only [e_locV, locV_some, isU_mv, isU_tv, e_and, e_cmp, e_call, e_nil, e_cons, e_and1, e_and2, x_assign, x_ret, x_cons, Bool.false_eq_true, if_false, lockV_lst, unlk_ok, bind_ok, k_cmp1, k_cmp2, k_call, k_cons1, k_cons2, k_and, k_and_t, k_assign, k_ret, k_seq, k_seq_n, k_seq_r, List.getElem?_cons_zero, List.getElem?_cons_succ, List.set_cons_zero, List.set_cons_succ, okB_some, truth_bool, hmo, him _ hM.meas, eq_mv, frz_bool]
    rfl
  · intro w D hw hD
    have hw' := F.in_ws w hw
    have hwl := F.wl w hw'
    have h0 : ("=" : Str).length = 1 := by decide
    refine ⟨_, [.lst (ns.map .int), .lst (ws.map .str), .lst (ls.map .str), tv t, .int V, .undef, .ref 0, .str w, .undef, .undef, .undef, .undef, .undef, .undef, .undef], rfl, ?_, rfl⟩
    have ha := add_ss ([] ++ [.dict false D]) "=" w (by exact om138 hwl h0)
    have hs := set_dP (σ := []) (D := D) (by exact om4 hD) w (.tup [.tup [.str (("=" : Str) ++ w), .int 1]])
    simp only [List.nil_append, List.length_nil] at ha hs
    simp only [List.nil_append, e_const, e_locV, locV_some, isU_str, isU_ref, e_bin, e_tup, e_nil, e_cons, x_setitem, x_nil, x_cons, Bool.false_eq_true, if_false, bind_ok, k_bin1, k_bin2, k_tup, k_cons1, k_cons2, k_set1, k_set2, k_set3, k_set4, k_seq, k_seq_n, List.getElem?_cons_zero, List.getElem?_cons_succ, List.set_cons_zero, List.set_cons_succ, fin_v, constP_int, constP_str, ha, hs]
    rfl
end Mine

namespace Mine
open PySem PySem.W PyProof.Rows
noncomputable def isDef : Stmt → Bool
  | .FunctionDef .. => true
  | _ => false
noncomputable def view (p : Program) : Program := { p with main := { p.main with body := p.main.body.filter isDef } }
noncomputable def H07 (p : Program) : Hook := (HookD.mk (plainsOf p []) [("PARTS", partsL)]).hook p (fun d hd => by rw [List.mem_singleton.mp hd]; decide +kernel)
theorem atr_free : ∀ x, G.atr x = true → typeLookup (.type "object") x = pure none := fun x hx => by
  have hm : x ∈ atrs := List.contains_iff_mem.mp hx
  simp only [atrs, List.mem_cons, List.not_mem_nil, or_false] at hm
  rcases hm with rfl | rfl | rfl | rfl <;> (rw [typeLookup_type, builtinLookup_eq_fast]; kernel_rfl)
theorem gl_of {prog : Program} {w : World} {B : Heap} {mg mb : Str → Option Value} {cls : Str → Option CI} (q : DictIs prog w B "PARTS" partsL) (hg : B.Ns mainGlobals mg) : ∀ x v, G.const x = some v → ∃ y, (Fix.mk prog w B mg mb cls).mg x = some y ∧ (Fix.mk prog w B mg mb cls).VR (Fix.mk prog w B mg mb cls).g0 (Fix.mk prog w B mg mb cls).B v y := fun x v h => by
  have h : (if x = "PARTS" then some partsV else none) = some v := h
  split at h
  · rename_i hx
    subst hx
    cases h
    exact DictIs.vr (C := Fix.mk prog w B mg mb cls) q hg
  · cases h
end Mine
open PySem PySem.W PyProof.Rows
set_option maxHeartbeats 8000000 in
theorem PySem.Challenge.cw_uf010018_07_holds : PySem.Challenge.rw_uf010018_07.Holds := by
  w_on
  refine holds_law (by decide +kernel) fun said => ?_
  refine holds_open (q := Mine.view PySem.Challenge.rw_uf010018_07.row.prog) (loose := ["PARTS", "Looker"]) (Xt := fun s => xlAt (Mine.view PySem.Challenge.rw_uf010018_07.row.prog) [] s && recOk (RowW.records (OpenRow.toRowW PySem.Challenge.rw_uf010018_07.row)) s) (XP := XL (Mine.view PySem.Challenge.rw_uf010018_07.row.prog) []) (Yf := Hook.obs (Mine.H07 PySem.Challenge.rw_uf010018_07.row.prog)) (Ya := Hook.val (Mine.H07 PySem.Challenge.rw_uf010018_07.row.prog)) (YP := Hook.says (Mine.H07 PySem.Challenge.rw_uf010018_07.row.prog)) (N := 6000) ?hl (Hook.of (Mine.H07 PySem.Challenge.rw_uf010018_07.row.prog)) (Hook.keeps (Mine.H07 PySem.Challenge.rw_uf010018_07.row.prog)) (fun s e => xl_of s (Bool.and_eq_true_iff.mp e).1) XL.keeps (by rfl) (by rfl) (by rfl) (fun s e => recFacts_of (Bool.and_eq_true_iff.mp e).2) (by rfl) (by first | assumption | decide +kernel) (by decide +kernel) ⟨rfl, rfl, rfl, rfl, rfl, by decide +kernel⟩ ?hw ?hc
  case hl => exact LeftO.of_split "special-get-raises" (by intro w; kernel_rfl)
  case hw => w_witness2
  intro w s₀ s₁ mg mb G Y fa o pm cd doc dV kV ho hd hcd hD hmg hg args vals as hpre hlay hrd hwl hlo
  refine Ground.open G ?_
  intro T B D TE TW
  have Y' : (∃ cls, Mine.ClsIs (plainsOf PySem.Challenge.rw_uf010018_07.row.prog []) s₁.heap cls) ∧ ∀ d ∈ [(("PARTS" : Str), Mine.partsL)], Mine.DictIs PySem.Challenge.rw_uf010018_07.row.prog w s₁.heap d.1 d.2 := Y
  obtain ⟨⟨cls, hcls⟩, hds⟩ := Y'
  have hb := Mine.bi_of_top T (by decide +kernel)
  have K := Mine.ok_of_top (prog := PySem.Challenge.rw_uf010018_07.row.prog) (w := w) (cls := cls) T (by decide +kernel) (by decide +kernel)
  have FN := Mine.fns_of_topD (prog := PySem.Challenge.rw_uf010018_07.row.prog) (w := w) (cls := cls) (tbl := Mine.tbl) T (by decide +kernel)
  have MT := Mine.meths_ok (prog := PySem.Challenge.rw_uf010018_07.row.prog) (w := w) (mg := mg) (mb := mb) (tbl := Mine.tbl) hcls (by decide +kernel) (by decide +kernel)
  have CF := Mine.cls_facts (mg := mg) (l := Mine.atrs) hcls T.g (by decide +kernel)
  have GL := Mine.gl_of (prog := PySem.Challenge.rw_uf010018_07.row.prog) (w := w) (mg := mg) (mb := mb) (cls := cls) (hds ("PARTS", Mine.partsL) (List.mem_singleton.mpr rfl)) T.g
  wrow_args hpre hlay hrd hwl hlo
  rename_i ns q1 q2 q3 q4 q5 q6 q7 x q8 q9 q10 q11 w1 q12 q13 q14 hlen q15
  refine Mine.law_head (C := Mine.Fix.mk PySem.Challenge.rw_uf010018_07.row.prog w s₁.heap mg mb cls) (G := Mine.G) (F := Mine.F_law) (D := 40) rfl K (by decide) GL FN MT hb CF Mine.atr_free (by decide +kernel) hmg (by rfl) rfl w1 (Mine.plain07 ns (by omega)) fun s' hk hos hgn => GoodW.toG ⟨.inl ⟨_, .bool true, [], rfl, fun _ => rfl, .bool true, ?_, fun _ => ⟨List.nodup_nil, fun _ q => nomatch q⟩⟩, hk, hos, hgn.trans hg⟩
  exact Mine.post_true _ _ _
