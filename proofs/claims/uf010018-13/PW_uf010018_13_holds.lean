import PyProof.Rows.All
import PyProof.Claim2
import PyProof.Rows.Frame
import PyProof.FactsAll.list_3
import PyProof.AttrMissHeap
import PyProof.AutoSeq1
import PyProof.ListIndex
import PyProof.CallType
import PyProof.CallStr
import PyProof.Cells
import PyProof.CompMap
import PyProof.PlainList
import PyProof.ConsumeS
import PyProof.CompFree
import PyProof.Conv_int_bool
import PyProof.MeetsSeq
import PyProof.DictKinds
import PyProof.DictCalls
import PyProof.DictWalks
import PyProof.ExcArgs
import PyProof.ExcClsAt2
import PyProof.ExcBaseAll.ValueError
import PyProof.StationsW
import PyProof.StrBlock
import PyProof.StrBlockI
import PyProof.RangeIter
import PyProof.WalksMore
import PyProof.WalkInts
import PyProof.RulesAs
import PyProof.Rows.Tup
import PyProof.Rows.DictSet
import PyProof.Rows.Own
import PyProof.Rows.AttrNodeAny
import PyProof.Rows.RuleN_abs
import PyProof.Rows.TupMore
import PyProof.Rows.PlainObj
import PyProof.Rows.TopObj
import PyProof.Rows.SortStr
import Open.Head
import OpenK.KLine
import KE.KDictList
import KE.KDictSum
import KE.KDictOf
import KE.KEqDict
import KE.KSliceW
import KE.KTryMore
import Wide.All
import OpenK.AllK
import Wide.FinOn
import Lean
import PySem.Challenge.RW_uf010018_13
set_option Elab.async false
set_option autoImplicit false
set_option linter.all false
namespace Mine
theorem ar1 {a b : Nat} (h1 : a ≤ b - (1 : Nat)) (h2 : (0 : Nat) < b) : a + (1 : Nat) ≤ b := Nat.add_le_of_le_sub h2 h1
theorem ar5 {a : Nat} (h1 : a ≤ (1000000 : Nat)) : (↑a : Int) ≤ (1000000 : Int) := Nat.ToInt.of_le rfl rfl h1
theorem ar6 {a b : Nat} (h1 : ¬a < b) (h2 : a < b + (1 : Nat)) : a = b := Nat.le_antisymm (Nat.le_of_lt_succ h2) (Nat.le_of_not_lt h1)
theorem ar7 {a b c : Nat} (h1 : b = c) (h2 : a < c) : a < b := Nat.lt_of_lt_of_eq h2 (id (Eq.symm h1))
theorem byC {p : Prop} (h : ¬p → False) : p := Classical.byContradiction h
theorem nab {x : Int} {n : Nat} (h1 : -(n : Int) ≤ x) (h2 : x ≤ n) : x.natAbs ≤ n := by omega
theorem om3 {a b : Nat} (h1 : ¬b < a) : a ≤ b := Nat.le_of_not_lt h1
theorem om4 {a : Nat} (h1 : a ≤ (1000 : Nat)) : a ≤ (1000000 : Nat) := by lia
theorem om5 {a : Nat} (h1 : a ≤ (63 : Nat)) : a ≤ (1000000 : Nat) := by lia
theorem om10 {a b c : Nat} (h1 : b = (1 : Nat)) : (1 : Nat) ≤ a + b + c := Nat.le_trans (Nat.le_of_eq h1.symm) (Nat.le_trans (Nat.le_add_left b a) (Nat.le_add_right _ c))
theorem om11 {a b : Nat} {c : Int} (h1 : (0 : Int) ≤ c ∧ c < (8 : Int)) (h2 : b = c.toNat) (h3 : a = (1 : Nat)) : a + b ≤ (100 : Nat) := Nat.le_trans (Nat.add_le_add (Nat.le_of_eq h3) (h2 ▸ Int.toNat_le.mpr (Int.le_of_lt h1.2) : b ≤ 8)) (by decide)
theorem om12 {a b : Nat} (h1 : a = (1 : Nat)) : (1 : Nat) ≤ a + b := Nat.le.intro (congrFun (congrArg HAdd.hAdd (id (Eq.symm h1))) b)
theorem om15 {a : Nat} {b : Int} (h1 : (0 : Int) ≤ b ∧ b < (8 : Int)) (h2 : a = ((1 : Int) + b).toNat) : a ≤ (100 : Nat) := h2 ▸ Nat.le_trans (Int.toNat_le.mpr (show (1 : Int) + b ≤ ((9 : Nat) : Int) from Int.add_le_add_left (Int.le_of_lt h1.2) 1)) (by decide)
theorem om16 {a : Nat} {b : Int} (h1 : (0 : Int) ≤ b ∧ b < (8 : Int)) (h2 : a = ((1 : Int) + b).toNat) : (1 : Nat) ≤ a := by omega
theorem om19 {a b : Nat} {c : Int} (h1 : (0 : Int) ≤ c ∧ c < (8 : Int)) (h2 : b = c.toNat) (h3 : a = (1 : Nat)) : a + b ≤ (1000000 : Nat) := by lia
theorem om23 {a : Nat} (h1 : a = (1 : Nat)) : a ≤ (1000 : Nat) := by lia
theorem om24 {a : Int} (h1 : (0 : Int) ≤ a ∧ a < (8 : Int)) : (-1000 : Int) ≤ a := by lia
theorem om25 {a : Int} (h1 : (0 : Int) ≤ a ∧ a < (8 : Int)) : a ≤ (1000 : Int) := by lia
theorem om26 {a : Int} (h1 : (0 : Int) ≤ a ∧ a < (8 : Int)) : (-1000 : Int) ≤ (1 : Int) + a := Int.le_trans (by decide) (Int.le_add_of_nonneg_right h1.1)
theorem om27 {a : Int} (h1 : (0 : Int) ≤ a ∧ a < (8 : Int)) : (1 : Int) + a ≤ (1000 : Int) := by lia
theorem om28 {a b : Int} (h1 : (0 : Int) ≤ b ∧ b < a) : (-1000 : Int) ≤ a - (1 : Int) - b := by lia
theorem om29 {a b c : Int} (h1 : (0 : Int) ≤ c ∧ c < (8 : Int)) (h2 : (1 : Int) + c = a) (h3 : (0 : Int) ≤ b ∧ b < a) : a - (1 : Int) - b ≤ (1000 : Int) := Int.le_trans (Int.sub_le_self _ h3.1) (Int.le_trans (Int.sub_le_self _ (by decide)) (h2 ▸ Int.le_trans (Int.add_le_add_left (Int.le_of_lt h1.2) 1) (by decide)))
theorem om30 {a b : Int} (h1 : (0 : Int) ≤ a ∧ a < b) : (-1000 : Int) ≤ a := by omega
theorem om31 {a b c : Int} (h1 : (0 : Int) ≤ b ∧ b < (8 : Int)) (h2 : (1 : Int) + b = c) (h3 : (0 : Int) ≤ a ∧ a < c) : a ≤ (1000 : Int) := Int.le_of_lt (Int.lt_of_lt_of_le h3.2 (h2 ▸ Int.le_trans (Int.add_le_add_left (Int.le_of_lt h1.2) 1) (by decide)))
theorem om32 {a b : Nat} (h1 : a < b) : a + (1 : Nat) ≤ b := Nat.succ_le_of_lt h1
theorem om33 {a b : Nat} (h1 : b ≤ (1000 : Nat)) (h2 : a < b) : a ≤ (1000000 : Nat) := by lia
theorem om35 {a : Nat} (h1 : a ≤ (1000 : Nat)) : (↑a : Int).natAbs ≤ (1000000 : Nat) := Nat.le_trans h1 (by decide)
theorem om36 {a : Int} (h1 : (0 : Int) ≤ a ∧ a < (8 : Int)) : (0 : Int) < (1 : Int) + a := by lia
theorem om38 {a : Int} (h1 : (0 : Int) ≤ a ∧ a < (26 : Int)) : (0 : Int) ≤ a ∧ a ≤ (1000000 : Int) := ⟨h1.1, Int.le_trans (Int.le_of_lt h1.2) (by decide)⟩
theorem om39 {a : Int} (h1 : (0 : Int) ≤ a ∧ a < (26 : Int)) : a.toNat < (26 : Nat) := (Int.toNat_lt h1.1).mpr h1.2
theorem om40 {a b c : Nat}  : a + b + c = a + (c + b) := by lia
theorem om42 {a : Int} {b : Nat} (h1 : (0 : Int) ≤ a ∧ a < (↑b : Int)) : a = (↑a.toNat : Int) := (Int.toNat_of_nonneg h1.1).symm
theorem om43 {a : Int} {b : Nat} (h1 : (0 : Int) ≤ a ∧ a < (↑b : Int)) : a.toNat < b := (Int.toNat_lt h1.1).mpr h1.2
theorem om44 {a : Nat} (h1 : (0 : Nat) < a) : (0 : Int) < (↑a : Int) := Int.natCast_pos.mpr h1
theorem om45 {a : Nat} (h1 : a ≤ (4 : Nat)) : a ≤ (1000000 : Nat) := by lia
theorem om47 {a b c : Nat} (h1 : c ≤ b + (1 : Nat)) (h2 : a < c) : a ≤ b := by lia
theorem om49 {a b : Nat} (h1 : b ≤ a) (h2 : (1 : Nat) ≤ b) : a = a - (1 : Nat) + (1 : Nat) := (Nat.sub_add_cancel (Nat.le_trans h2 h1)).symm
theorem om51   : (1 : Nat) ≤ (1 : Nat) := Nat.le_of_ble_eq_true rfl
theorem om52 {a b : Nat}  : (1 : Nat) ≤ (1 : Nat) + max a b := Nat.le_add_right 1 (max a b)
theorem om53 {a : Nat}  : (1 : Nat) ≤ (1 : Nat) + a := Nat.le_add_right 1 a
theorem om54 {a b c d : Nat}  : (1 : Nat) ≤ (1 : Nat) + max (max a b) (max c d) := Nat.le_add_right 1 (max (max a b) (max c d))
theorem om59 {a : Nat}  : a < (1 : Nat) + a := by lia
theorem om62 {a b c d : Nat}  : a < (1 : Nat) + max (max a b) (max c d) := Nat.lt_one_add_iff.mpr (Nat.le_trans (Nat.le_max_left a b) (Nat.le_max_left _ _))
theorem om63 {a b c d : Nat}  : a < (1 : Nat) + max (max b a) (max c d) := Nat.lt_one_add_iff.mpr (Nat.le_trans (Nat.le_max_right b a) (Nat.le_max_left _ _))
theorem om64 {a b c d : Nat}  : a < (1 : Nat) + max (max b c) (max a d) := Nat.lt_one_add_iff.mpr (Nat.le_trans (Nat.le_max_left a d) (Nat.le_max_right _ _))
theorem om65 {a b c d : Nat}  : a < (1 : Nat) + max (max b c) (max d a) := Nat.lt_one_add_iff.mpr (Nat.le_trans (Nat.le_max_right d a) (Nat.le_max_right _ _))
theorem om66 {a b : Nat}  : a < (1 : Nat) + max a b := by lia
theorem om67 {a b : Nat}  : a < (1 : Nat) + max b a := Nat.lt_one_add_iff.mpr (Nat.le_max_right b a)
theorem om72 {a : Nat} (h1 : a < (1000 : Nat)) : a + (1 : Nat) ≤ (1000000 : Nat) := by lia
theorem om134 {a : Nat}  : (0 : Nat) + a ≤ a := by lia
theorem om149 {a b c : Nat} (h1 : a ≤ c + (1 : Nat)) (h2 : b ≤ c + (1 : Nat)) : (1 : Nat) + max a b ≤ c + (1 : Nat) + (1 : Nat) := Nat.le_trans (Nat.add_le_add_left (Nat.max_le.mpr ⟨h1, h2⟩) 1) (Nat.le_of_eq (Nat.add_comm _ _))
theorem om155 {a b : Nat} (h1 : a ≤ b + (1 : Nat)) : (1 : Nat) + a ≤ b + (1 : Nat) + (1 : Nat) := by lia
theorem om163 {a : Int} {b : Nat} (h1 : a ≤ (↑(b + (1 : Nat)) : Int)) : a - (1 : Int) ≤ (↑b : Int) := Int.sub_right_le_iff_le_add.mpr h1
theorem om170 {a : Int} (h1 : (0 : Int) ≤ a ∧ a < (4 : Int)) : a = (0 : Int) ∨ a = (1 : Int) ∨ a = (2 : Int) ∨ a = (3 : Int) := by lia
theorem om174 {a : Nat} (h1 : (1 : Nat) ≤ a) : (↑a : Int) ≠ (0 : Int) := Int.natCast_ne_zero_iff_pos.mpr h1
theorem om177 {a : Nat} (h1 : (0 : Nat) < a) : (↑a : Int) ≠ (0 : Int) := Int.natCast_ne_zero_iff_pos.mpr h1
theorem om179 {a : Nat}  : (0 : Int) ≤ (↑a : Int) := Int.natCast_nonneg a
theorem om184 {a b c : Nat} (h1 : b < (4 : Nat)) (h2 : a ≤ c) (h3 : c < b) : a ≤ (1000000 : Nat) := Nat.le_trans h2 (Nat.le_trans (Nat.le_of_lt h3) (Nat.le_trans (Nat.le_of_lt h1) (by decide)))
theorem om185 {a : Int} (h1 : (0 : Int) ≤ a ∧ a < (41 : Int)) : (a - (20 : Int)).natAbs ≤ (20 : Nat) := nab (Int.le_sub_right_of_add_le (show (-((20 : Nat) : Int)) + 20 ≤ a from h1.1)) (Int.sub_right_le_of_le_add (show a ≤ ((20 : Nat) : Int) + 20 from Int.le_of_lt_add_one h1.2))
theorem om186 {a : Int} (h1 : (0 : Int) ≤ a ∧ a < (5 : Int)) : (a - (2 : Int)).natAbs ≤ (20 : Nat) := Nat.le_trans (nab (n := 2) (Int.le_sub_right_of_add_le (show (-((2 : Nat) : Int)) + 2 ≤ a from h1.1)) (Int.sub_right_le_of_le_add (show a ≤ ((2 : Nat) : Int) + 2 from Int.le_of_lt_add_one h1.2))) (by decide)
theorem om187 {a : Int} (h1 : (0 : Int) ≤ a ∧ a < (9 : Int)) : a / (8 : Int) = (0 : Int) ∨ a / (8 : Int) = (1 : Int) := by lia
theorem om190 {a : Nat} (h1 : (1 : Nat) ≤ a) : (0 : Nat) < a := h1
theorem om200 {a : Int} (h1 : (0 : Int) ≤ a ∧ a < (2 : Int)) : a = (0 : Int) ∨ a = (1 : Int) := by lia
theorem om216 {a : Nat} (h1 : a = (3 : Nat)) : a ≤ (1000 : Nat) := by lia
theorem om217 {a : Nat} (h1 : a = (3 : Nat)) : (1 : Nat) ≤ a := by omega
theorem om218 {a : Nat} (h1 : a = (4 : Nat)) : a ≤ (1000 : Nat) := by omega
theorem om219 {a : Nat} (h1 : a = (4 : Nat)) : (1 : Nat) ≤ a := by omega
theorem om220 {a b : Nat} (h1 : a + b ≤ (1000000 : Nat)) : a + b ≤ (16777216 : Nat) := by lia
theorem om221 {a b : Nat} (h1 : a + (2 : Nat) * b < (890 : Nat)) : a + (100 : Nat) < (1000 : Nat) := by lia
theorem om222 {a : Nat} (h1 : a ≤ (1000 : Nat) * (1000 : Nat)) : a ≤ (16777216 : Nat) := by lia
theorem om223 {a : Int} (h1 : a ≤ (1000 : Int)) : a.toNat ≤ (1000 : Nat) := Int.toNat_le.mpr h1
theorem om224 {a : Int} (h1 : a < (1 : Int)) : a.toNat = (0 : Nat) := by lia
theorem om225 {a : Nat} (h1 : a ≤ (1000 : Nat) * (1000 : Nat)) : ¬a > (16777216 : Nat) := by omega
theorem om227 {a b : Int} (h1 : a ≤ (b - (1 : Int)) / (1000 : Int) * (1000 : Int)) : a ≤ b - (1 : Int) := Int.le_trans h1 (Int.ediv_mul_le (b - 1) (by decide))
theorem om228 {a : Int} (h1 : ¬a < (1 : Int)) : (0 : Int) < a := by omega
theorem om231 {a b c d : Nat} (h1 : a + (d + (1 : Nat)) < c) (h2 : b ≤ d) : a + (1 : Nat) + b < c := Nat.lt_of_le_of_lt (Nat.le_trans (Nat.add_le_add_left h2 (a + 1)) (Nat.le_of_eq (Nat.add_right_comm a 1 d))) h1
theorem om235 {a b c : Nat} (h1 : a + (12 : Nat) * c + (700 : Nat) < b) : a + (1 : Nat) + (200 : Nat) < b := by lia
theorem om236 {a b c : Nat} (h1 : a + (12 : Nat) * c + (700 : Nat) < b) : a < b := Nat.lt_of_le_of_lt (Nat.le_trans (Nat.le_add_right a (12 * c)) (Nat.le_add_right _ _)) h1
theorem om241 {a : Int} {b : Nat} (h1 : a.toNat < b) (h2 : ¬a < (0 : Int)) (h3 : ((0 : Int) ≤ a → (↑b : Int) ≤ a)) : False := absurd ((Int.toNat_lt (Int.not_lt.mp h2)).mp h1) (Int.not_lt.mpr (h3 (Int.not_lt.mp h2)))
theorem om242 {a : Int} (h1 : (0 : Int) ≤ a) : ¬a < (0 : Int) := Int.not_lt_of_ge h1
theorem om243 {a b : Int} (h1 : b < a) : (↑(a - b).toNat : Int) - (↑(0 : Nat) : Int) = a - b := (Int.sub_zero _).trans (Int.toNat_of_nonneg (Int.sub_nonneg_of_le (Int.le_of_lt h1)))
theorem om244 {a b : Int} (h1 : ¬b < a) : (↑(a - b).toNat : Int) - (↑(0 : Nat) : Int) = (0 : Int) := by lia
theorem om250 {a : Nat} (h1 : a ≤ (1000000 : Nat)) : a ≤ (16777216 : Nat) := by lia
theorem om252 {a b : Nat} (h1 : b ≤ (100 : Nat)) (h2 : a < b) : a ≤ (16777216 : Nat) := by lia
theorem om254 {a b c : Nat} (h1 : c < b) (h2 : a = c) : a < b := lt_of_eq_of_lt h2 h1
theorem om255 {a b : Nat} (h1 : a < b) (h2 : b ≤ (100 : Nat)) : a ≤ (16777216 : Nat) := by omega
theorem om256 {a : Int} (h1 : a < (0 : Int)) : -a = (↑a.natAbs : Int) := (Int.ofNat_natAbs_of_nonpos (Int.le_of_lt h1)).symm
theorem om257 {a : Int} (h1 : ¬a < (0 : Int)) : a = (↑a.natAbs : Int) := (Int.natAbs_of_nonneg (Int.not_lt.mp h1)).symm
theorem om262 {a b : Nat} (h1 : a ≤ b) : a + (1 : Nat) ≤ b + (1 : Nat) := Nat.add_le_add_right h1 1
theorem om265 {a b c : Nat} (h1 : b = c) (h2 : a < c) : a < b := Nat.lt_of_lt_of_eq h2 (id (Eq.symm h1))
theorem om267 {a b : Nat} (h1 : a = b) : a ≤ b := Nat.le_of_eq h1
theorem om286 {a : Nat}  : ¬(↑a : Int) < (0 : Int) := Int.not_ofNat_neg a
theorem om287 {a b : Nat} (h1 : b ≤ (1000000 : Nat)) (h2 : a = b) : a ≤ (16777216 : Nat) := by omega
theorem om288 {a b : Nat} (h1 : b ≤ (1000000 : Nat)) (h2 : a = b) : a ≤ (1000000 : Nat) := by omega
theorem om289 {a b : Nat} (h1 : (1 : Nat) ≤ b) (h2 : a = b) : (1 : Nat) ≤ a := le_of_le_of_eq h1 (id (Eq.symm h2))
theorem om290 {a b : Nat} (h1 : (1 : Nat) ≤ a) (h2 : (1 : Nat) ≤ b) : (↑(min a b) : Int) ≠ (0 : Int) := by lia
theorem om291 {a b c d : Nat} (h1 : b ≤ d) : min a b - c ≤ d := Nat.le_trans (Nat.sub_le _ _) (Nat.le_trans (Nat.min_le_right a b) h1)
theorem om292 {a b c : Nat} (h1 : ¬b ≤ a) : a ≤ b + c := by lia
theorem om293 {a b c : Nat}  : ¬a < min b c - c := fun h => absurd (Nat.sub_eq_zero_of_le (Nat.min_le_right b c) ▸ h) (Nat.not_lt_zero a)
theorem om294 {a b : Nat} (h1 : ¬b ≤ a) : a ≤ b := Nat.le_of_not_ge h1
theorem om295 {a b c d : Nat} (h1 : ¬c < min d a - b) (h2 : b + c < d) : a ≤ b + c := by omega
theorem om296 {a b c d : Nat} (h1 : b < min c d - a) : a + b < c := Nat.lt_of_lt_of_le (Nat.add_lt_of_lt_sub' h1) (Nat.min_le_left c d)
theorem om297 {a b : Nat}  : ((↑a : Int) + (↑b : Int) * (1 : Int)).toNat = a + b := (congrArg (fun x => ((a : Int) + x).toNat) (Int.mul_one (b : Int))).trans rfl
theorem om298 {a b : Nat}  : ((↑a : Int) - (↑b : Int) - (1 : Int) + (1 : Int)).toNat = a - b := (congrArg Int.toNat (Int.sub_add_cancel ((a : Int) - b) 1)).trans (Int.toNat_sub a b)
theorem om299 {a b : Nat} (h1 : ¬(↑b : Int) < (↑a : Int)) : Int.toNat (0 : Int) = a - b := (Nat.sub_eq_zero_of_le (Int.ofNat_le.mp (Int.not_lt.mp h1))).symm
theorem om300 {a b : Nat}  : min (↑a : Int) (↑b : Int) = (↑(min a b) : Int) := by omega
theorem om301 {a : Nat} (h1 : a < (20 : Nat)) : a < (30 : Nat) := Nat.lt_of_lt_of_le h1 (by decide)
theorem om302 {a b c : Nat} (h1 : b < (1000 : Nat)) (h2 : c = b) (h3 : c = a) : a ≤ (16777216 : Nat) := by lia
theorem om303 {a b c d : Nat} (h1 : c = d) (h2 : a = d) (h3 : b = c) : a = b := by lia
theorem om304 {a b : Nat} (h1 : b < a) : a - (b + (1 : Nat)) < a - b := Nat.sub_succ_lt_self a b h1
theorem om307 {a b : Nat} (h1 : a = b) : a ≤ b + (2 : Nat) := Nat.le.intro (congrFun (congrArg HAdd.hAdd h1) 2)
theorem om308 {a b : Nat} (h1 : a = b) : a ≤ b + (1 : Nat) := Nat.le.intro (congrFun (congrArg HAdd.hAdd h1) 1)
theorem om309 {a b c : Nat} (h1 : a = b ∨ a < b) (h2 : c ≠ (0 : Nat)) : a ≠ b + c := by lia
theorem om310 {a b : Nat} (h1 : b ≠ (0 : Nat)) : a ≠ a + b := by lia
theorem om311 {a b c : Nat} (h1 : b ≠ c) : a + b ≠ a + c := by lia
theorem om312 {a b c : Nat} (h1 : a < b) : a ≠ b + c := by lia
theorem om313 {a b : Nat} (h1 : ¬b < a) : a + (b - a) = b := Nat.add_sub_cancel' (Nat.le_of_not_lt h1)
theorem om314 {a b c : Nat} (h1 : c = b) (h2 : a < c) : a < b := Nat.lt_of_lt_of_eq h2 h1
theorem om315 {a b : Nat} (h1 : a = b) : ¬a > b := by lia
theorem om316 {a b : Nat} (h1 : a ≤ (250 : Nat)) (h2 : b = (9900 : Nat)) : (4 : Nat) + (3 : Nat) + (12 : Nat) * a + (700 : Nat) < b := by lia
theorem om317 {a b : Nat} (h1 : b ≤ (250 : Nat)) (h2 : a = (300 : Nat)) : (1 : Nat) + a + (1 : Nat) + (2 : Nat) * b < (890 : Nat) := by lia
theorem om319 {a b : Nat} (h1 : a + (2 : Nat) * (b + (1 : Nat)) < (890 : Nat)) : a < (1000 : Nat) := by omega
theorem om320 {a b c : Nat} (h1 : a + (12 : Nat) * (b + (1 : Nat)) + (700 : Nat) < c) : a + (1 : Nat) + (3 : Nat) + (12 : Nat) * b + (700 : Nat) < c := by lia
theorem om321 {a b : Nat} (h1 : a + (2 : Nat) * (b + (1 : Nat)) < (890 : Nat)) : a + (1 : Nat) + (1 : Nat) + (2 : Nat) * b < (890 : Nat) := by lia
theorem om322 {a b c : Nat} (h1 : a + (12 : Nat) * (b + (1 : Nat)) + (700 : Nat) < c) : a + (3 : Nat) + (12 : Nat) * b + (700 : Nat) < c := by lia
theorem om323 {a b : Nat} (h1 : a + (2 : Nat) * (b + (1 : Nat)) < (890 : Nat)) : a + (1 : Nat) + (2 : Nat) * b < (890 : Nat) := by lia
theorem om324 {a b : Nat} (h1 : ¬a < b) : ¬(↑a : Int) < (↑b : Int) := by omega
theorem om325 {a b : Nat} (h1 : a < b) : (↑a : Int) < (↑b : Int) := Int.ofNat_lt.mpr h1
theorem om326 {a b c : Nat} {d e f : Int} (h1 : (0 : Int) ≤ d ∧ d < (8 : Int)) (h2 : (1 : Int) + d = e) (h3 : (0 : Int) ≤ f ∧ f < e) (h4 : a = f.toNat) (h5 : c = (e - (1 : Int) - f).toNat) (h6 : b = (1 : Nat)) : a + b + c ≤ (100 : Nat) := by omega
theorem om327 {a : Nat} (h1 : ¬(↑a : Int) < (8 : Int)) : (↑a : Int) > (7 : Int) := by omega
theorem om328 {a : Nat} (h1 : (↑a : Int) < (8 : Int)) : ¬(↑a : Int) > (7 : Int) := by lia
theorem om329 {a b c : Nat} {d e f : Int} (h1 : (0 : Int) ≤ d ∧ d < (8 : Int)) (h2 : (1 : Int) + d = e) (h3 : (0 : Int) ≤ f ∧ f < e) (h4 : a = f.toNat) (h5 : c = (e - (1 : Int) - f).toNat) (h6 : b = (1 : Nat)) : a + b + c ≤ (1000000 : Nat) := by omega
theorem om330 {a b : Nat} {c d e : Int} (h1 : (0 : Int) ≤ c ∧ c < (8 : Int)) (h2 : (1 : Int) + c = d) (h3 : (0 : Int) ≤ e ∧ e < d) (h4 : a = e.toNat) (h5 : b = (1 : Nat)) : a + b ≤ (1000000 : Nat) := by lia
theorem om331 {a b : Int} (h1 : (0 : Int) ≤ b ∧ b < (1 : Int) + a) : (1 : Int) + a ≠ (0 : Int) := by omega
theorem om332 {a : Int} {b : Nat} (h1 : b < (4 : Nat)) (h2 : a = (↑b : Int)) : a.natAbs ≤ (1000000 : Nat) := by omega
theorem om333 {a : Nat} (h1 : a < (3 : Nat)) : ¬(7 : Nat) = a := by lia
theorem om334 {a : Nat} (h1 : a < (3 : Nat)) : ¬(8 : Nat) = a := by lia
theorem om335 {a : Nat} (h1 : a < (3 : Nat)) : ¬(3 : Nat) = a := Nat.ne_of_lt' h1
theorem om336 {a : Nat} (h1 : a < (3 : Nat)) : ¬(4 : Nat) = a := by lia
theorem om337 {a : Nat} (h1 : a < (3 : Nat)) : ¬(5 : Nat) = a := by lia
theorem om338 {a : Nat} (h1 : a < (3 : Nat)) : ¬(6 : Nat) = a := by lia
theorem om348 {a : Nat} (h1 : ¬(↑a : Int) > (0 : Int)) : a = (0 : Nat) := by omega
theorem om349 {a b c d : Nat} (h1 : a + d = c) (h2 : d = (2 : Nat) * b + (0 : Nat)) : a + (b + b) = c := by lia
theorem om350 {a : Nat} (h1 : (1 : Nat) ≤ a) : a / (2 : Nat) < a := by lia
theorem om352 {a : Nat} (h1 : (1 : Nat) ≤ a) (h2 : a % (2 : Nat) = (0 : Nat)) : (1 : Nat) ≤ a / (2 : Nat) := by omega
theorem om353 {a : Nat} (h1 : (1 : Nat) ≤ a) (h2 : a % (2 : Nat) = (0 : Nat)) : (↑(a / (2 : Nat)) : Int) > (0 : Int) := by omega
theorem om354 {a : Nat} (h1 : ¬(↑(a % (2 : Nat)) : Int) = (1 : Int)) : a % (2 : Nat) = (0 : Nat) := Nat.mod_two_ne_one.mp fun a_1 => h1 (congrArg Nat.cast a_1)
theorem om356 {a b c d : Nat} (h1 : a + d = c) (h2 : d = (2 : Nat) * (b * (0 : Nat)) + b) : a + b + b * (0 : Nat) = c := by lia
theorem om357 {a : Nat} (h1 : a % (2 : Nat) = (1 : Nat)) : a / (2 : Nat) < a := by omega
theorem om358 {a : Nat} (h1 : ¬(↑(a / (2 : Nat)) : Int) > (0 : Int)) : a / (2 : Nat) = (0 : Nat) := by lia
theorem om359 {a b c d e : Nat} (h1 : a + e = d) (h2 : e = (2 : Nat) * c + b) : a + b + (c + c) = d := by lia
theorem om360 {a : Nat} (h1 : (↑(a / (2 : Nat)) : Int) > (0 : Int)) : a / (2 : Nat) < a := by omega
theorem om362 {a : Nat} (h1 : (↑(a / (2 : Nat)) : Int) > (0 : Int)) : (1 : Nat) ≤ a / (2 : Nat) := by lia
theorem om364 {a : Nat} (h1 : (↑(a % (2 : Nat)) : Int) = (1 : Int)) : a % (2 : Nat) = (1 : Nat) := Eq.symm ((fun {m n} => Int.ofNat_inj.mp) (id (Eq.symm h1)))
theorem om365 {a : Nat}  : a = (2 : Nat) * (a / (2 : Nat)) + a % (2 : Nat) := Eq.symm (Nat.div_add_mod a 2)
theorem om367 {a : Nat} (h1 : (↑a : Int) > (0 : Int)) : (1 : Nat) ≤ a := Int.ofNat_le.mp h1
theorem om368 {a : Nat}  : (0 : Nat) + (1 : Nat) * a = a := by lia
theorem om369 {a : Nat} (h1 : (0 : Nat) < a) : (0 : Int) - (↑a : Int) ≠ (0 : Int) := by omega
theorem om370 {a : Nat}  : (0 : Int) - (↑a : Int) = -(↑a : Int) := Int.zero_sub ↑a
theorem om371 {a : Nat} (h1 : (↑a : Int) > (0 : Int)) : (0 : Nat) < a := Int.natCast_pos.mp h1
theorem om372 {a : Nat} (h1 : (↑a : Int) > (0 : Int)) : (↑a : Int) ≠ (0 : Int) := Ne.symm (Int.ne_of_lt h1)
theorem om373 {a : Nat} (h1 : (↑a : Int) = (0 : Int)) : a = (0 : Nat) := Int.ofNat_eq_zero.mp h1
theorem om374 {a : Nat} (h1 : (↑a : Int) ≠ (0 : Int)) : (0 : Nat) < a := Nat.zero_lt_of_ne_zero fun a_1 => h1 (congrArg Nat.cast a_1)
theorem om397 {a : Int} {b : Nat} (h1 : a ≤ (↑(b + (1 : Nat)) : Int)) : a - (2 : Int) ≤ (↑b : Int) := by lia
theorem om401 {a : Nat}  : (1 : Nat) ≤ a + (1 : Nat) + (1 : Nat) := Nat.le_add_left 1 (a + 1)
theorem om404 {a : Int} (h1 : a ≤ (↑(0 : Nat) : Int)) : a < (1 : Int) := Int.lt_of_le_sub_one h1
theorem om415 {a : Int} (h1 : (0 : Int) ≤ a ∧ a < (1000000000 : Int)) : ((1 : Int) + a).natAbs < (2000000002 : Nat) := by omega
theorem om416 {a : Int} (h1 : (0 : Int) ≤ a ∧ a < (2000000001 : Int)) : (a - (1000000000 : Int)).natAbs < (2000000002 : Nat) := by omega
theorem om417 {a : Int} (h1 : (0 : Int) ≤ a ∧ a < (1000000000 : Int)) : (1 : Int) + a ≠ (0 : Int) := by omega
theorem om418 {a : Int} (h1 : (0 : Int) ≤ a ∧ a < (5 : Int)) : ((1 : Int) + a).natAbs < (100 : Nat) := by omega
theorem om419 {a : Int} (h1 : (0 : Int) ≤ a ∧ a < (41 : Int)) : (a - (20 : Int)).natAbs < (100 : Nat) := by omega
theorem om420 {a : Int} (h1 : (0 : Int) ≤ a ∧ a < (5 : Int)) : (1 : Int) + a ≠ (0 : Int) := by omega
theorem om440 {a : Nat} (h1 : a < (4 : Nat)) : a ≤ (1000000 : Nat) := by lia
theorem om441 {a b : Nat} (h1 : b = (4 : Nat)) (h2 : a < (4 : Nat)) : a < b := Nat.lt_of_lt_of_eq h2 (id (Eq.symm h1))
theorem om442 {a b : Nat} (h1 : a ≤ b) (h2 : b < (4 : Nat)) : a ≤ (1000000 : Nat) := by lia
theorem om503 {a b : Nat} (h1 : (↑a : Int) < (↑b : Int)) : a < b := Int.ofNat_lt.mp h1
theorem om505 {a b c : Nat} (h1 : b = c) (h2 : c < (1000 : Nat)) (h3 : b = a) : a ≤ (16777216 : Nat) := by lia
theorem om690 {a b : Nat} (h1 : b < (4 : Nat)) (h2 : a ≤ b) : a ≤ (3 : Nat) := by lia
theorem om691 {a b c : Nat} (h1 : b ≤ (20 : Nat)) (h2 : b = (2 : Nat) * c + (0 : Nat)) (h3 : a * (1 : Nat) ≤ c) : a + a ≤ (20 : Nat) := by lia
theorem om692 {a b : Nat} (h1 : a ≤ (20 : Nat)) (h2 : b ≤ (20 : Nat) - a) : a + b ≤ (20 : Nat) := by lia
theorem om693 {a b c : Nat} (h1 : b ≤ (20 : Nat)) (h2 : b = (2 : Nat) * c + a) (h3 : a * (1 : Nat) ≤ c) : a + a ≤ (20 : Nat) := by lia
theorem om694 {a b c d e : Nat} (h1 : c ≤ (20 : Nat)) (h2 : b + d = c) (h3 : d = (2 : Nat) * e + a) : a ≤ (20 : Nat) - b := by lia
theorem om695 {a b c : Nat} (h1 : b ≤ (20 : Nat)) (h2 : c + a = b) : a ≤ (20 : Nat) := by lia
theorem om696 {a b c : Nat} (h1 : a ≤ (100000 : Nat)) (h2 : b ≤ (100000 : Nat)) (h3 : (200000 : Int) ≤ (↑c : Int)) (h4 : (↑a : Int) + (↑b : Int) > (↑c : Int)) : False := by lia
theorem om697 {a b c d e : Nat} (h1 : a ≤ e + (1 : Nat)) (h2 : b ≤ e + (1 : Nat)) (h3 : c ≤ e + (1 : Nat)) (h4 : d ≤ e + (1 : Nat)) : (1 : Nat) + max (max a b) (max c d) ≤ e + (1 : Nat) + (1 : Nat) := by lia
theorem om698 {a : Int} (h1 : ¬a < (0 : Int)) : (↑a.natAbs : Int) = a := by lia
theorem om699 {a : Int} (h1 : a < (0 : Int)) : (0 : Int) - a = (↑a.natAbs : Int) := by lia
theorem om700 {a : Int} (h1 : (0 : Int) < (1 : Int) + a) : (1 : Int) + a ≠ (0 : Int) := by lia
theorem om701 {a b : Int} (h1 : (0 : Int) ≤ b ∧ b < a) : a ≠ (0 : Int) := by lia
theorem om702 {a b c : Int} (h1 : (0 : Int) < b ∧ b ≤ (10000 : Int)) (h2 : (0 : Int) ≤ c ∧ c < b) (h3 : (1 : Int) + c = a) : a.natAbs < (16384 : Nat) := by lia
theorem om703 {a : Int} (h1 : (0 : Int) < a) : a ≠ (0 : Int) := by lia
theorem om704 {a b c : Int} (h1 : (0 : Int) ≤ b ∧ b < c) (h2 : (1 : Int) + b = a) : (0 : Int) < a := by lia
theorem om705 {a : Int} (h1 : a = (5 : Int) ∨ a = (10000 : Int)) : (0 : Int) < a ∧ a ≤ (10000 : Int) := by lia
theorem om706 {a : Int} (h1 : a = (9 : Int) ∨ a = (10000 : Int)) : (0 : Int) < a ∧ a ≤ (10000 : Int) := by lia
theorem om707 {a : Nat} {b : Int} (h1 : b.natAbs ≤ (20 : Nat)) (h2 : a < b.natAbs) : a ≤ (20 : Nat) := by lia
theorem om708 {a : Int} (h1 : a.natAbs ≤ (20 : Nat)) : (↑a.natAbs : Int).natAbs ≤ (1000000 : Nat) := by lia
theorem om709 {a : Int} (h1 : (0 : Int) < a) : ¬a < (0 : Int) := by lia
theorem om710 {a : Int} (h1 : a < (0 : Int)) : ¬a > (0 : Int) := by lia
theorem om711 {a : Nat} (h1 : a ≤ (3 : Nat)) : (1 : Nat) + (281 : Nat) * a ≤ (1000 : Nat) := by lia
theorem om712 {a b : Nat}  : a + (281 : Nat) + (281 : Nat) * b = a + (281 : Nat) * (b + (1 : Nat)) := by lia
theorem om713 {a : Nat} (h1 : a ≤ (20 : Nat)) : (14 : Nat) * a + (1 : Nat) ≤ (281 : Nat) := by lia
theorem om714 {a b c : Nat} (h1 : a = c) (h2 : c ≤ (4 : Nat)) (h3 : b ≤ (1 : Nat)) : (0 : Nat) + (1 : Nat) + a + b ≤ (1000000 : Nat) := by lia
theorem om715 {a b : Nat} (h1 : a = b) (h2 : b ≤ (4 : Nat)) : a ≤ (1000000 : Nat) := by lia
theorem om716 {a b : Nat} (h1 : a = b) (h2 : b ≤ (4 : Nat)) : (0 : Nat) + (1 : Nat) + a ≤ (1000000 : Nat) := by lia
theorem om717 {a : Nat} (h1 : a ≤ (1000 : Nat)) : (↑a : Int) ≤ (1000000 : Int) := by lia
theorem om718 {a b c d : Nat} (h1 : a ≤ b) (h2 : c ≤ (4 : Nat)) (h3 : b + (d + (1 : Nat)) = c) : a ≤ (1000000 : Nat) := by lia
theorem om719 {a b : Nat}  : a + (1 : Nat) + b ≤ a + (b + (1 : Nat)) := by lia
theorem om720 {a b c : Nat} (h1 : c ≤ (4 : Nat)) (h2 : a = c) (h3 : b ≤ (1 : Nat)) : (0 : Nat) + (1 : Nat) + a + b ≤ (1000000 : Nat) := by lia
theorem om721 {a b : Nat} (h1 : b ≤ (4 : Nat)) (h2 : a = b) : a ≤ (1000000 : Nat) := by lia
theorem om722 {a b : Nat} (h1 : b ≤ (4 : Nat)) (h2 : a = b) : (0 : Nat) + (1 : Nat) + a ≤ (1000000 : Nat) := by lia
theorem om723 {a b c d : Nat} (h1 : b ≤ c + (1 : Nat)) (h2 : c + (1 : Nat) ≤ (100 : Nat)) (h3 : a ≤ d + (2 : Nat)) (h4 : d < b) : a ≤ (200 : Nat) := by lia
theorem om724 {a : Nat} (h1 : a + (1 : Nat) ≤ (100 : Nat)) : a ≤ (100 : Nat) := by lia
theorem om725 {a b : Nat} (h1 : b = (4 : Nat)) (h2 : a < b) : a < (4 : Nat) := by lia
theorem om726 {a : Nat} (h1 : a < (4 : Nat)) : (9 : Nat) + a ≤ (1000 : Nat) := by lia
theorem om727 {a : Nat} (h1 : a = (5 : Nat)) : a ≤ (1000 : Nat) := by lia
theorem om728 {a : Nat} (h1 : a = (5 : Nat)) : (1 : Nat) ≤ a := by lia
theorem om729 {a b : Nat} (h1 : b = (5 : Nat)) (h2 : a < b) : a < (5 : Nat) := by lia
theorem om730 {a : Nat} (h1 : a < (5 : Nat)) : a ≤ (1000000 : Nat) := by lia
theorem om731 {a : Nat} (h1 : a < (5 : Nat)) : (2 : Nat) + a ≤ (1000 : Nat) := by lia
theorem om732 {a b : Nat} (h1 : a ≤ b) (h2 : b < (5 : Nat)) : a ≤ (1000000 : Nat) := by lia
theorem om733 {a b : Nat} (h1 : b = (5 : Nat)) (h2 : a < (5 : Nat)) : a < b := by lia
theorem om734 {a : Nat} (h1 : a ≤ (1000 : Nat)) : (1 : Nat) + a ≤ (1000000 : Nat) := by lia
theorem om735 {a : Nat} (h1 : (1 : Nat) ≤ a ∧ a ≤ (100 : Nat)) : a ≤ (1000 : Nat) := by lia
theorem om736 {a : Nat} (h1 : a ≤ (4 : Nat)) : a ≤ (100 : Nat) := by lia
theorem om737 {a : Nat} (h1 : a ≤ (4 : Nat)) : a ≤ (37 : Nat) := by lia
theorem om738 {a : Nat} (h1 : a ≤ (4 : Nat)) : a ≤ (33 : Nat) := by lia
theorem om739 {a : Int} (h1 : a = (5 : Int) ∨ a = (3 : Int)) : a ≠ (0 : Int) := by lia
theorem om740 {a b : Int} (h1 : (0 : Int) ≤ a ∧ a < b) : a = (↑a.toNat : Int) := by lia
theorem om741 {a b : Int} (h1 : b = (5 : Int) ∨ b = (3 : Int)) (h2 : (0 : Int) ≤ a ∧ a < b) : a.toNat < (5 : Nat) := by lia
theorem om742 {a : Int} (h1 : a = (5 : Int) ∨ a = (3 : Int)) : (0 : Int) < a := by lia
theorem om743 {a : Nat} (h1 : a ≤ (100 : Nat)) : a + (2 : Nat) ≤ (200 : Nat) := by lia
theorem om237 {a b c : Nat} (h1 : a + (12 : Nat) * c + (700 : Nat) < b) : a + (1 : Nat) + (201 : Nat) < b := by lia
end Mine

set_option autoImplicit false
set_option backward.match.sparseCases false
set_option genSizeOf false
set_option genInjectivity false
namespace Mine
open PySem

inductive PV where
  | undef
  | none
  | bool (b : Bool)
  | int (i : Int)
  | str (s : Str)
  | tup (l : List PV)
  | lst (l : List PV)
  | dct (l : List (Str × PV))
  | rng (lo hi : Int)
  | ref (n : Nat)

inductive AObj where
  | list (lk : Bool) (l : List PV)
  | dict (lk : Bool) (l : List (Str × PV))

noncomputable abbrev AH := List AObj

inductive Res (α : Type) where
  | ok (a : α) (σ : AH)
  | exc (k : Str) (σ : AH)
  | bad
set_option genCtorIdx false

@[simp] noncomputable def Res.bind {α β : Type} : Res α → (α → AH → Res β) → Res β
  | .ok a σ, f => f a σ
  | .exc _ _, _ => .bad
  | .bad, _ => .bad
@[simp] noncomputable def Res.bindX {α β : Type} : Res α → (α → AH → Res β) → Res β
  | .ok a σ, f => f a σ
  | .exc e σ, _ => .exc e σ
  | .bad, _ => .bad
@[simp] noncomputable def Res.bindA {α β : Type} (b : Bool) : Res α → (α → AH → Res β) → Res β
  | .ok a σ, f => f a σ
  | .exc e σ, _ => bif b then .exc e σ else .bad
  | .bad, _ => .bad

inductive Tgt where
  | one (i : Nat)
  | many (is : List Nat)

set_option genCtorIdx true
inductive Ty where
  | int | bool | str | tuple | list | dict
  deriving DecidableEq

inductive BI where
  | len | sorted | tuple | list | dict | int | abs | range
  | isinst (t : Ty)

inductive BM where
  | append | pop

set_option genCtorIdx false
mutual
inductive PE where
  | const (c : Const)
  | loc (i : Nat)
  | andE (es : PEs)
  | orE (es : PEs)
  | bin (op : Operator) (a b : PE)
  | notE (a : PE)
  | neg (a : PE)
  | cmp (op : CmpOp) (a b : PE)
  | tup (es : PEs)
  | lst (es : PEs)
  | edict
  | idx (a i : PE)
  | sliceF (a lo : PE)
  | sliceFT (a lo hi : PE)
  | sliceT (a hi : PE)
  | glob (x : Str)
  | comp (elt : PE) (t : Tgt) (it : PE) (cond : PE)
  | call (f : Str) (args : PEs)
  | bi (b : BI) (args : PEs)
  | meth (o : PE) (m : BM) (args : PEs)
inductive PEs where
  | nil
  | cons (e : PE) (es : PEs)
end

inductive TB where
  | last (f : Str) (args : PEs)
  | iff (t : PE) (f : Str) (args : PEs) (r : TB)
inductive HT where
  | isI (k : Str)
  | notI (k : Str)
  | notV
structure HSs where
  y : Str
  a : List HT
  l : List Const
  o : List HT
mutual
inductive PS where
  | assign (i m : Nat) (e : PE)
  | setitem (o i : PE) (m : Nat) (v : PE)
  | assignT (is : List Nat) (e : PE)
  | whileS (t : PE) (body : PSs) (kills : List Nat)
  | expr (e : PE)
  | ret (m : Nat) (e : PE)
  | ite (t : PE) (b o : PSs)
  | forS (t : Tgt) (it : PE) (body : PSs) (kills : List Nat)
  | raise (k : Str) (x : Str)
  | tryS (b : TB) (k : Str) (i : Nat) (hs : HSs)
inductive PSs where
  | nil
  | cons (s : PS) (ss : PSs)
end

structure Fn where
  nargs : Nat
  slots : Nat
  body : PSs
  keep : Bool

structure Glob where
  const : Str → Option PV
  fn : Str → Option Fn
  isa : Str → Str → Bool
  atr : Str → Bool

set_option genCtorIdx true
inductive Flw where
  | next | brk | cont
  | ret (v : PV)
set_option genCtorIdx false



noncomputable def dput {α : Type} (kvs : List (Str × α)) (k : Str) (v : α) : List (Str × α) :=
  if kvs.any (fun kv => kv.1 = k) then kvs.map (fun kv => if kv.1 = k then (kv.1, v) else kv) else kvs ++ [(k, v)]
noncomputable def dget {α : Type} (kvs : List (Str × α)) (k : Str) : Option α := (kvs.find? fun kv => kv.1 = k).map (·.2)
noncomputable def ddel {α : Type} (kvs : List (Str × α)) (k : Str) : List (Str × α) := kvs.filter fun kv => ¬ kv.1 = k
noncomputable def dhas {α : Type} (kvs : List (Str × α)) (k : Str) : Bool := kvs.any fun kv => kv.1 = k

inductive Frs where
  | list (l : List PV)
  | dict (l : List (Str × PV))
noncomputable def Frs.val : Frs → PV
  | .list l => .lst l
  | .dict l => .dct l
noncomputable def Frs.obj : Frs → AObj
  | .list l => .list false l
  | .dict l => .dict false l
inductive Out where
  | v (v : PV)
  | f (f : Frs)

noncomputable def box (m : Nat) (f : Frs) (σ : AH) : Res PV := match m with
  | 0 => .ok f.val σ
  | _ + 1 => .ok (.ref σ.length) (σ ++ [f.obj])
noncomputable def fin (m : Nat) (o : Option Out) (σ : AH) : Res PV := match o with
  | some (.v v) => .ok v σ
  | some (.f f) => box m f σ
  | none => .bad

noncomputable def derefO : Option AObj → PV
  | some (.list _ l) => .lst l
  | some (.dict _ l) => .dct l
  | _ => .undef
noncomputable def deref (σ : AH) : PV → PV
  | .ref i => derefO σ[i]?
  | v => v
noncomputable def intOf : PV → Option Int
  | .int i => some i
  | _ => none
noncomputable def strOf : PV → Option Str
  | .str x => some x
  | _ => none
noncomputable def tupOf : PV → Option (List PV)
  | .tup l => some l
  | _ => none
noncomputable def lstOf : PV → Option (List PV)
  | .lst l => some l
  | _ => none
noncomputable def dctOf : PV → Option (List (Str × PV))
  | .dct l => some l
  | _ => none
noncomputable def refOf : PV → Option Nat
  | .ref i => some i
  | _ => none
noncomputable def seqOf : PV → Option (List PV)
  | .tup l => some l
  | .lst l => some l
  | _ => none
noncomputable def both {α β γ : Type} (f : PV → Option α) (g : PV → Option β) (a b : PV) (h : α → β → Option γ) (k : Option γ) : Option γ :=
  match f a, g b with
  | some x, some y => h x y
  | _, _ => k
noncomputable def asList (σ : AH) (v : PV) : Option (List PV) := lstOf (deref σ v)
noncomputable def asSeq (σ : AH) (v : PV) : Option (List PV) := seqOf (deref σ v)

noncomputable def signs (x : Str) : List PV := x.cps.toList.map fun c => .str ⟨#[c]⟩
noncomputable def rngInts (lo hi : Int) : List PV := (List.range (hi - lo).toNat).map fun (k : Nat) => .int (lo + (k : Int))
noncomputable def itemsD : PV → Option (List PV)
  | .tup l => some l
  | .lst l => some l
  | .rng lo hi => some (rngInts lo hi)
  | .dct l => some (l.map fun kv => .str kv.1)
  | _ => none
noncomputable def items (σ : AH) (v : PV) : Option (List PV) := itemsD (deref σ v)

noncomputable def small (n : Nat) : Bool := decide (n ≤ 1000000)

noncomputable def truthN (n : Nat) : Option Bool := if small n then some (n != 0) else none
noncomputable def truthD : PV → Option Bool
  | .none => some false
  | .bool b => some b
  | .int i => some (i != 0)
  | _ => none
noncomputable def truth (σ : AH) (v : PV) : Option Bool := truthD (deref σ v)

-- the value with new tracked things as values
mutual
noncomputable def frzW (d : Nat → Option PV) : PV → Option PV
  | .ref i => d i
  | .tup l => (frzWs d l).map .tup
  | .lst l => (frzWs d l).map .lst
  | .dct l => (frzWd d l).map .dct
  | v => some v
noncomputable def frzWs (d : Nat → Option PV) : List PV → Option (List PV)
  | [] => some []
  | v :: r => (frzW d v).bind fun x => (frzWs d r).map (x :: ·)
noncomputable def frzWd (d : Nat → Option PV) : List (Str × PV) → Option (List (Str × PV))
  | [] => some []
  | (k, v) :: r => (frzW d v).bind fun x => (frzWd d r).map ((k, x) :: ·)
end
theorem frzWs_c (d : Nat → Option PV) (v : PV) (r : List PV) : frzWs d (v :: r) = (frzW d v).bind fun x => (frzWs d r).map (x :: ·) := rfl
theorem frzWd_c (d : Nat → Option PV) (k : Str) (v : PV) (r : List (Str × PV)) : frzWd d ((k, v) :: r) = (frzW d v).bind fun x => (frzWd d r).map ((k, x) :: ·) := rfl
noncomputable def frzO (d : Nat → Option PV) : Option AObj → Option PV
  | some (.list _ l) => (frzWs d l).map .lst
  | some (.dict _ l) => (frzWd d l).map .dct
  | _ => none
noncomputable def frz (n : Nat) (σ : AH) : Nat → PV → Option PV
  | 0 => frzW fun i => if i < n then some (.ref i) else none
  | k + 1 => frzW fun i => if i < n then some (.ref i) else frzO (fun j => frz n σ k (.ref j)) σ[i]?

end Mine

set_option autoImplicit false
set_option backward.match.sparseCases false
namespace Mine
open PySem

noncomputable def repStr (x : Str) (n : Int) : Str := ⟨(List.replicate n.toNat x.cps).foldl (· ++ ·) #[]⟩
noncomputable def strLt (x y : Str) : Bool := decide (x.cps.toList < y.cps.toList)
noncomputable def sortS (l : List Str) : List Str := l.mergeSort fun a b => !strLt b a

noncomputable def strsOf : List PV → Option (List Str)
  | [] => some []
  | v :: r => (strOf v).bind fun x => (strsOf r).map (x :: ·)

open Classical in
noncomputable def binop (σ : AH) (op : Operator) (a b : PV) : Option Out := match op with
  | .Add => both intOf intOf a b (fun x y => some (.v (.int (x + y)))) (both strOf strOf a b (fun x y => if x.length + y.length ≤ 1000000 then some (.v (.str (x ++ y))) else none)
      (both lstOf lstOf (deref σ a) (deref σ b) (fun x y => if x.length + y.length ≤ 1000000 then some (.f (.list (x ++ y))) else none)
      (both tupOf tupOf a b (fun x y => if x.length + y.length ≤ 1000000 then some (.v (.tup (x ++ y))) else none) none)))
  | .Sub => both intOf intOf a b (fun x y => some (.v (.int (x - y)))) none
  | .Mult => both intOf intOf a b (fun x y => if IntMulOk x y then some (.v (.int (x * y))) else none) (both strOf intOf a b (fun x n => if n ≤ 1000 ∧ -1000 ≤ n ∧ x.length ≤ 1000 then some (.v (.str (repStr x n))) else none) none)
  | .FloorDiv => both intOf intOf a b (fun x y => if y = 0 then none else some (.v (.int (x.fdiv y)))) none
  | .Mod => both intOf intOf a b (fun x y => if y = 0 then none else some (.v (.int (x.fmod y)))) none
  | .Pow => both intOf intOf a b (fun x n => if 0 ≤ n ∧ n ≤ 1000000 ∧ x.natAbs < 2 ^ 64 then some (.v (.int (x ^ n.toNat))) else none) none
  | _ => none

noncomputable def pickAt (l : List PV) (k : Int) : Option Out := if 0 ≤ k ∧ k ≤ 1000000 then (l[k.toNat]?).map .v else none

noncomputable def cutD (lo hi : Nat) : PV → Option Out
  | .tup l => if small l.length && decide (1 ≤ lo) && decide (1 ≤ l.length) then some (.v (.tup ((l.take hi).drop lo))) else none
  | .lst l => if small l.length then some (.f (.list ((l.take hi).drop lo))) else none
  | _ => none
noncomputable def natOf (v : PV) : Option Nat := (intOf v).bind fun i => if 0 ≤ i ∧ i ≤ 1000000 then some i.toNat else none
noncomputable def cutP (σ : AH) (a lo hi : PV) : Option Out := (natOf lo).bind fun i => (natOf hi).bind fun j => cutD i j (deref σ a)
noncomputable def cutF (σ : AH) (a lo : PV) : Option Out := (natOf lo).bind fun i => cutD i 1000000 (deref σ a)
noncomputable def cutTD (j : Nat) : PV → Option Out
  | .tup l => if small l.length && decide (j < l.length) then some (.v (.tup (l.take j))) else none
  | _ => none
noncomputable def cutT (σ : AH) (a hi : PV) : Option Out := (natOf hi).bind fun j => cutTD j (deref σ a)
noncomputable def signOf (x : Str) (k : Int) : Option Out := if 0 ≤ k ∧ k ≤ 1000000 then (x.cps[k.toNat]?).map fun c => .v (.str ⟨#[c]⟩) else none
noncomputable def getAt (σ : AH) (a i : PV) : Option Out :=
  both seqOf intOf (deref σ a) i pickAt (both strOf intOf a i signOf (both dctOf strOf (deref σ a) i (fun l k => (dget l k).map .v) none))

mutual
noncomputable def pureV : PV → Bool
  | .none | .bool _ | .int _ | .str _ => true
  | .tup l => pureVs l
  | .lst l => pureVs l
  | _ => false
noncomputable def pureVs : List PV → Bool
  | [] => true
  | v :: r => pureV v && pureVs r
end
mutual
noncomputable def deep : PV → Nat
  | .tup l => deeps l + 1
  | .lst l => deeps l + 1
  | _ => 0
noncomputable def deeps : List PV → Nat
  | [] => 0
  | v :: r => max (deep v) (deeps r)
end
noncomputable def boolOf : PV → Option Bool
  | .bool b => some b
  | _ => none
noncomputable def isNone : PV → Bool
  | .none => true
  | _ => false
mutual
noncomputable def pvEq : PV → PV → Bool
  | .none, b => isNone b
  | .bool a, b => (intOf b).any (fun j => (if a then 1 else 0) == j) || (boolOf b).any (a == ·)
  | .int i, b => (boolOf b).any (fun c => i == if c then 1 else 0) || (intOf b).any (i == ·)
  | .str x, b => (strOf b).any (x == ·)
  | .tup l, b => (tupOf b).any (pvEqs l)
  | .lst l, b => (lstOf b).any (pvEqs l)
  | _, _ => false
noncomputable def pvEqs : List PV → List PV → Bool
  | [], r => r.isEmpty
  | v :: l, r => r.head?.any (pvEq v) && pvEqs l r.tail
end
noncomputable def plain (v : PV) : Bool := pureV v && decide (deep v ≤ 200)

noncomputable def dctEq (l r : List (Str × PV)) : Bool := l.length == r.length && l.all fun kv => (dget r kv.1).any (pvEq kv.2)
noncomputable def plainD (l : List (Str × PV)) : Bool := l.all fun kv => plain kv.2
noncomputable def eqV (a b : PV) : Option Bool := if plain a && plain b then some (pvEq a b) else none
noncomputable def eqP (σ : AH) (a b : PV) : Option Bool := both dctOf dctOf (deref σ a) (deref σ b) (fun l r => if plainD l && plainD r then some (dctEq l r) else none) (eqV (deref σ a) (deref σ b))

noncomputable def three {α : Type} : List α → Option (α × α × α)
  | [v, x, y] => some (v, x, y)
  | _ => none
noncomputable def triNe (σ : AH) (a b : PV) : Option Bool := ((tupOf (deref σ a)).bind three).bind fun p => ((tupOf (deref σ b)).bind three).bind fun q => (eqP σ p.1 q.1).bind fun r => (eqP σ p.2.1 q.2.1).bind fun t => (eqP σ p.2.2 q.2.2).map fun u => !(r && t && u)
noncomputable def isN : PV → Bool
  | .none => true
  | .undef => false
  | .bool _ => false
  | .int _ => false
  | .str _ => false
  | .tup _ => false
  | .lst _ => false
  | .dct _ => false
  | .rng _ _ => false
  | .ref _ => false
noncomputable def inTup (a b : PV) : Option Bool := bif isN a then (tupOf b).bind fun l => if pureVs l && small l.length && decide (deeps l ≤ 200) then some (l.any isN) else none else none
noncomputable def isNone2 (a b : PV) : Option Bool := bif isN b then some (isN a) else none
noncomputable def cmpP (σ : AH) (op : CmpOp) (a b : PV) : Option Bool := match op with
  | .Eq => eqP σ a b
  | .NotEq => ((eqP σ a b).map (!·)).or (triNe σ a b)
  | .Lt => both intOf intOf a b (fun x y => some (decide (x < y))) (both strOf strOf a b (fun x y => some (strLt x y)) none)
  | .LtE => both intOf intOf a b (fun x y => some (decide (x ≤ y))) (both strOf strOf a b (fun x y => some (!strLt y x)) none)
  | .Gt => both intOf intOf a b (fun x y => some (decide (x > y))) (both strOf strOf a b (fun x y => some (strLt y x)) none)
  | .Is => isNone2 a b
  | .IsNot => (isNone2 a b).map (!·)
  | .In => inTup a b
  | .NotIn => both strOf dctOf a (deref σ b) (fun x l => if small l.length then some (!dhas l x) else none) none
  | _ => none

noncomputable def tyD : PV → Option Ty
  | .int _ => some .int
  | .str _ => some .str
  | .tup _ => some .tuple
  | .lst _ => some .list
  | .dct _ => some .dict
  | _ => none
noncomputable def isTyD (t : Ty) : PV → Option Bool
  | .none => some false
  | .bool _ => some (t == .bool || t == .int)
  | v => (tyD v).map (t == ·)
noncomputable def isTy (σ : AH) (t : Ty) (v : PV) : Option Bool := isTyD t (deref σ v)

noncomputable def lenD : PV → Option Nat
  | .str x => some x.length
  | .tup l => some l.length
  | .lst l => some l.length
  | .dct l => some l.length
  | _ => none
noncomputable def lenP (σ : AH) (v : PV) : Option Nat := lenD (deref σ v)

noncomputable def sortMost : Nat := 64

noncomputable def sortD : PV → Option (List Str)
  | .dct l => some (l.map (·.1))
  | _ => none
noncomputable def sortArg (σ : AH) (v : PV) : Option (List Str) := sortD (deref σ v)
noncomputable def one {α : Type} : List α → Option α
  | [v] => some v
  | _ => none
noncomputable def biLen (σ : AH) (args : List PV) : Option Out := (one args).bind fun v => (lenP σ v).bind fun n => if small n then some (.v (.int n)) else none
noncomputable def biSorted (σ : AH) (args : List PV) : Option Out := (one args).bind fun v => (sortArg σ v).bind fun l => if l.length < sortMost then some (.f (.list ((sortS l).map .str))) else none
noncomputable def biTuple (σ : AH) (args : List PV) : Option Out := (one args).bind fun v => (asSeq σ v).bind fun l => if small l.length then some (.v (.tup l)) else none
noncomputable def dictD : PV → Option Out
  | .dct l => if small l.length then some (.f (.dict l)) else none
  | _ => none
noncomputable def biDict (σ : AH) (args : List PV) : Option Out := (one args).bind fun v => dictD (deref σ v)
noncomputable def biRange (args : List PV) : Option Out := (one args).bind fun v => (intOf v).bind fun n => if n.natAbs ≤ 1000000 then some (.v (.rng 0 n)) else none
noncomputable def biIsinst (σ : AH) (t : Ty) (args : List PV) : Option Out := (one args).bind fun v => (isTy σ t v).map fun b => .v (.bool b)
noncomputable def listD (v : PV) : Option Out := (seqOf v).bind fun l => if small l.length then some (.f (.list l)) else none
noncomputable def biList (σ : AH) (args : List PV) : Option Out := (one args).bind fun v => listD (deref σ v)
noncomputable def biInt (args : List PV) : Option Out := (one args).bind fun v => (boolOf v).bind fun b => some (.v (.int (if b then 1 else 0)))
noncomputable def biAbs (args : List PV) : Option Out := (one args).bind fun v => (intOf v).bind fun i => some (.v (.int i.natAbs))
noncomputable def biP (σ : AH) (b : BI) (args : List PV) : Option Out := match b with
  | .len => biLen σ args
  | .sorted => biSorted σ args
  | .tuple => biTuple σ args
  | .dict => biDict σ args
  | .list => biList σ args
  | .int => biInt args
  | .abs => biAbs args
  | .range => biRange args
  | .isinst t => biIsinst σ t args

noncomputable def BM.ty : BM → Ty
  | .append => .list
  | .pop => .dict
noncomputable def openL (σ : AH) (i : Nat) : Option (List PV) := match σ[i]? with
  | some (.list false l) => some l
  | _ => none
noncomputable def openD (σ : AH) (i : Nat) : Option (List (Str × PV)) := match σ[i]? with
  | some (.dict false l) => some l
  | _ => none
noncomputable def bmP (σ : AH) (m : BM) (o : PV) (args : List PV) : Option (PV × AH) := match m with
  | .append => (one args).bind fun v => (refOf o).bind fun i => (openL σ i).bind fun l => if small l.length then some (.none, σ.set i (.list false (l ++ [v]))) else none
  | .pop => (one args).bind fun v => (strOf v).bind fun k => (refOf o).bind fun i => (openD σ i).bind fun l => if small l.length then (dget l k).map fun x => (x, σ.set i (.dict false (ddel l k))) else none

end Mine

set_option autoImplicit false
set_option backward.match.sparseCases false
namespace Mine
open PySem

structure Cx where
  gl : Str → Option PV
  cal : Str → List PV → AH → Res PV
  isa : Str → Str → Bool
  atr : Str → Bool

noncomputable def setAll : List PV → List Nat → List PV → List PV
  | ρ, i :: is, v :: vs => setAll (ρ.set i v) is vs
  | ρ, _, _ => ρ
noncomputable def bindT : Tgt → PV → List PV → Option (List PV)
  | .one i, v, ρ => some (ρ.set i v)
  | .many is, .tup l, ρ => if l.length = is.length then some (setAll ρ is l) else none
  | _, _, _ => none
noncomputable def kill (ks : List Nat) (ρ : List PV) : List PV := ks.foldl (fun ρ i => ρ.set i .undef) ρ

noncomputable def lockAt (σ : AH) (i : Nat) (b : Bool) : AH := match σ[i]? with
  | some (.list _ l) => σ.set i (.list b l)
  | some (.dict _ l) => σ.set i (.dict b l)
  | _ => σ
noncomputable def lkAt (σ : AH) (i : Nat) : Bool := match σ[i]? with
  | some (.list b _) => b
  | some (.dict b _) => b
  | _ => false
noncomputable def lockV (σ : AH) (v : PV) (b : Bool) : AH := match v with
  | .ref i => lockAt σ i b
  | _ => σ
noncomputable def tgtSlots : Tgt → List Nat
  | .one i => [i]
  | .many is => is

noncomputable def lkV (σ : AH) (v : PV) : Bool := match v with
  | .ref i => lkAt σ i
  | _ => false
noncomputable def unlock {α : Type} (v : PV) (b : Bool) : Res α → Res α
  | .ok a σ => .ok a (lockV σ v b)
  | .exc e σ => .exc e (lockV σ v b)
  | .bad => .bad

noncomputable def compL (cond elt : List PV → AH → Res PV) (t : Tgt) (ρ : List PV) : List PV → AH → Res (List PV)
  | [], σ => .ok [] σ
  | x :: xs, σ => match bindT t x ρ with
    | none => .bad
    | some ρ1 => (cond ρ1 σ).bind fun b σ1 => match truth σ1 b with
      | some true => (elt ρ1 σ1).bindX fun v σ2 => (compL cond elt t ρ xs σ2).bindX fun vs σ3 => .ok (v :: vs) σ3
      | some false => compL cond elt t ρ xs σ1
      | none => .bad

noncomputable def constP : Const → Option PV
  | .none => some .none
  | .bool b => some (.bool b)
  | .int i => some (.int i)
  | .str x => some (.str x)
  | _ => none

noncomputable def okB (o : Option Bool) (σ : AH) : Res PV := match o with
  | some b => .ok (.bool b) σ
  | none => .bad

noncomputable def okV (o : Option PV) (σ : AH) : Res PV := match o with
  | some v => .ok v σ
  | none => .bad
noncomputable def pickB {α : Type} (o : Option Bool) (a b : Res α) : Res α := match o with
  | some true => a
  | some false => b
  | none => .bad
mutual
noncomputable def ev (c : Cx) : PE → Nat → List PV → AH → Res PV
  | .const k, _, _, σ => match constP k with | some v => .ok v σ | none => .bad
  | .loc i, _, ρ, σ => match ρ[i]? with
    | some .undef => .bad
    | some v => .ok v σ
    | none => .bad
  | .andE es, _, ρ, σ => evAnd c es ρ σ
  | .orE es, _, ρ, σ => evOr c es ρ σ
  | .bin op a b, m, ρ, σ => (ev c a 0 ρ σ).bind fun x σ1 => (ev c b 0 ρ σ1).bind fun y σ2 => fin m (binop σ2 op x y) σ2
  | .notE a, _, ρ, σ => (ev c a 0 ρ σ).bind fun x σ1 => okB ((truth σ1 x).map (!·)) σ1
  | .neg a, _, ρ, σ => (ev c a 0 ρ σ).bind fun x σ1 => match x with
    | .int i => .ok (.int (-i)) σ1
    | _ => .bad
  | .cmp op a b, _, ρ, σ => (ev c a 0 ρ σ).bind fun x σ1 => (ev c b 0 ρ σ1).bind fun y σ2 => okB (cmpP σ2 op x y) σ2
  | .tup es, _, ρ, σ => (evs c es 0 ρ σ).bindX fun vs σ1 => .ok (.tup vs) σ1
  | .lst es, m, ρ, σ => (evs c es m.pred ρ σ).bind fun vs σ1 => box m (.list vs) σ1
  | .edict, m, _, σ => box m (.dict []) σ
  | .idx a i, _, ρ, σ => (ev c a 0 ρ σ).bind fun x σ1 => (ev c i 0 ρ σ1).bind fun k σ2 => fin 0 (getAt σ2 x k) σ2
  | .sliceF a lo, m, ρ, σ => (ev c a 0 ρ σ).bind fun x σ1 => (ev c lo 0 ρ σ1).bind fun k σ2 => fin m (cutF σ2 x k) σ2
  | .sliceFT a lo hi, m, ρ, σ => (ev c a 0 ρ σ).bind fun x σ1 => (ev c lo 0 ρ σ1).bind fun k σ2 => (ev c hi 0 ρ σ2).bind fun j σ3 => fin m (cutP σ3 x k j) σ3
  | .sliceT a hi, m, ρ, σ => (ev c a 0 ρ σ).bind fun x σ1 => (ev c hi 0 ρ σ1).bind fun k σ2 => fin m (cutT σ2 x k) σ2
  | .glob x, _, _, σ => okV (c.gl x) σ
  | .comp elt t it cond, m, ρ, σ => (ev c it 0 ρ σ).bind fun v σ1 => match items σ1 v with
    | none => .bad
    | some l => if small l.length then (unlock v (lkV σ1 v) (compL (ev c cond 0) (ev c elt m.pred) t (kill (tgtSlots t) ρ) l (lockV σ1 v true))).bindX fun vs σ2 => box m (.list vs) σ2 else .bad
  | .call f args, _, ρ, σ => (evs c args 0 ρ σ).bindA (c.atr f) fun vs σ1 => c.cal f vs σ1
  | .bi b args, m, ρ, σ => (evs c args 0 ρ σ).bind fun vs σ1 => fin m (biP σ1 b vs) σ1
  | .meth o mt args, _, ρ, σ => (ev c o 0 ρ σ).bind fun x σ1 => if isTy σ1 mt.ty x = some true then (evs c args 0 ρ σ1).bind fun vs σ2 => match bmP σ2 mt x vs with
      | some (v, σ3) => .ok v σ3
      | none => .bad
    else .bad
noncomputable def evs (c : Cx) : PEs → Nat → List PV → AH → Res (List PV)
  | .nil, _, _, σ => .ok [] σ
  | .cons e es, m, ρ, σ => (ev c e m ρ σ).bindX fun v σ1 => (evs c es m ρ σ1).bindX fun vs σ2 => .ok (v :: vs) σ2
noncomputable def evAnd (c : Cx) : PEs → List PV → AH → Res PV
  | .nil, _, _ => .bad
  | .cons e .nil, ρ, σ => ev c e 0 ρ σ
  | .cons e es, ρ, σ => (ev c e 0 ρ σ).bind fun v σ1 => pickB (truth σ1 v) (evAnd c es ρ σ1) (.ok v σ1)
noncomputable def evOr (c : Cx) : PEs → List PV → AH → Res PV
  | .nil, _, _ => .bad
  | .cons e .nil, ρ, σ => ev c e 0 ρ σ
  | .cons e es, ρ, σ => (ev c e 0 ρ σ).bind fun v σ1 => pickB (truth σ1 v) (.ok v σ1) (evOr c es ρ σ1)
end

noncomputable def setAt (σ : AH) (a i v : PV) : Option AH :=
  both refOf strOf a i (fun r k => (openD σ r).bind fun l => if small l.length then some (σ.set r (.dict false (dput l k v))) else none) (both refOf intOf a i (fun r k => (openL σ r).bind fun l => if 0 ≤ k ∧ k < l.length ∧ small l.length = true then some (σ.set r (.list false (l.set k.toNat v))) else none) none)

noncomputable abbrev FE := Flw × List PV

noncomputable def forL (body : List PV → AH → Res FE) (t : Tgt) (ks : List Nat) : List PV → List PV → AH → Res FE
  | [], ρ, σ => .ok (.next, kill ks ρ) σ
  | x :: xs, ρ, σ => match bindT t x (kill ks ρ) with
    | none => .bad
    | some ρ1 => (body ρ1 σ).bindX fun r σ1 => match r.1 with
      | .next => forL body t ks xs r.2 σ1
      | .cont => forL body t ks xs r.2 σ1
      | .brk => .ok (.next, kill ks r.2) σ1
      | .ret v => .ok (.ret v, r.2) σ1

noncomputable def whileN (test : List PV → AH → Res PV) (body : List PV → AH → Res FE) (ks : List Nat) : Nat → List PV → AH → Res FE
  | 0, _, _ => .bad
  | n + 1, ρ, σ => (test (kill ks ρ) σ).bind fun b σ1 => match truth σ1 b with
    | some true => (body (kill ks ρ) σ1).bind fun r σ2 => match r.1 with
      | .next => whileN test body ks n r.2 σ2
      | .cont => whileN test body ks n r.2 σ2
      | .brk => .ok (.next, kill ks r.2) σ2
      | .ret v => .ok (.ret v, r.2) σ2
    | some false => .ok (.next, kill ks ρ) σ1
    | none => .bad

section
variable {body : List PV → AH → Res FE} {test cond elt : List PV → AH → Res PV} {t : Tgt} {ks : List Nat} {x : PV} {xs ρ : List PV} {σ : AH} {n : Nat}
theorem compL_0 : compL cond elt t ρ [] σ = .ok [] σ := rfl
theorem compL_c : compL cond elt t ρ (x :: xs) σ = match bindT t x ρ with
    | none => .bad
    | some ρ1 => (cond ρ1 σ).bind fun b σ1 => match truth σ1 b with
      | some true => (elt ρ1 σ1).bindX fun v σ2 => (compL cond elt t ρ xs σ2).bindX fun vs σ3 => .ok (v :: vs) σ3
      | some false => compL cond elt t ρ xs σ1
      | none => .bad := rfl
theorem forL_0 : forL body t ks [] ρ σ = .ok (.next, kill ks ρ) σ := rfl
theorem forL_c : forL body t ks (x :: xs) ρ σ = match bindT t x (kill ks ρ) with
    | none => .bad
    | some ρ1 => (body ρ1 σ).bindX fun r σ1 => match r.1 with
      | .next => forL body t ks xs r.2 σ1
      | .cont => forL body t ks xs r.2 σ1
      | .brk => .ok (.next, kill ks r.2) σ1
      | .ret v => .ok (.ret v, r.2) σ1 := rfl
theorem whileN_c : whileN test body ks (n + 1) ρ σ = (test (kill ks ρ) σ).bind fun b σ1 => match truth σ1 b with
    | some true => (body (kill ks ρ) σ1).bind fun r σ2 => match r.1 with
      | .next => whileN test body ks n r.2 σ2
      | .cont => whileN test body ks n r.2 σ2
      | .brk => .ok (.next, kill ks r.2) σ2
      | .ret v => .ok (.ret v, r.2) σ2
    | some false => .ok (.next, kill ks ρ) σ1
    | none => .bad := rfl
end
open Classical in
noncomputable def whileW (test : List PV → AH → Res PV) (body : List PV → AH → Res FE) (ks : List Nat) (ρ : List PV) (σ : AH) : Res FE :=
  if h : ∃ n, whileN test body ks n ρ σ ≠ .bad then whileN test body ks h.choose ρ σ else .bad

theorem whileN_succ {test : List PV → AH → Res PV} {body : List PV → AH → Res FE} {ks : List Nat} : ∀ (n : Nat) (ρ : List PV) (σ : AH), whileN test body ks n ρ σ ≠ .bad → whileN test body ks (n + 1) ρ σ = whileN test body ks n ρ σ
  | 0, _, _, h => absurd rfl h
  | n + 1, ρ, σ, h => by
    rw [whileN_c] at h
    rw [whileN_c (n := n + 1), whileN_c (n := n)]
    cases ht : test (kill ks ρ) σ with
    | bad => rfl
    | exc e σ => rfl
    | ok b σ1 =>
      rw [ht] at h
      simp only [Res.bind] at h ⊢
      cases hb : truth σ1 b with
      | none => rfl
      | some q =>
        rw [hb] at h
        cases q with
        | false => rfl
        | true =>
          simp only at h ⊢
          cases hr : body (kill ks ρ) σ1 with
          | bad => rfl
          | exc e σ => rfl
          | ok r σ2 =>
            rw [hr] at h
            simp only [Res.bind] at h ⊢
            obtain ⟨f, ρ1⟩ := r
            cases f with
            | next => exact whileN_succ n _ _ h
            | cont => exact whileN_succ n _ _ h
            | brk => rfl
            | ret v => rfl
theorem whileN_mono {test : List PV → AH → Res PV} {body : List PV → AH → Res FE} {ks : List Nat} {n m : Nat} {ρ : List PV} {σ : AH} (hle : n ≤ m) (h : whileN test body ks n ρ σ ≠ .bad) :
    whileN test body ks m ρ σ = whileN test body ks n ρ σ := by
  induction hle with
  | refl => rfl
  | step _ ih => rw [whileN_succ _ _ _ (ih ▸ h), ih]
theorem whileW_of {test : List PV → AH → Res PV} {body : List PV → AH → Res FE} {ks : List Nat} {n : Nat} {ρ : List PV} {σ : AH} {r : Res FE} (h : whileN test body ks n ρ σ = r) (hb : r ≠ .bad) :
    whileW test body ks ρ σ = r := by
  have hn : whileN test body ks n ρ σ ≠ .bad := h ▸ hb
  have hex : ∃ n, whileN test body ks n ρ σ ≠ .bad := ⟨n, hn⟩
  unfold whileW
  rw [dif_pos hex, ← h]
  rcases Nat.le_total hex.choose n with hle | hle
  · exact (whileN_mono hle hex.choose_spec).symm
  · exact whileN_mono hle hn
theorem whileW_spec {test : List PV → AH → Res PV} {body : List PV → AH → Res FE} {ks : List Nat} {ρ : List PV} {σ : AH} (hb : whileW test body ks ρ σ ≠ .bad) : ∃ n, whileN test body ks n ρ σ = whileW test body ks ρ σ := by
  unfold whileW at hb ⊢
  split
  · exact ⟨_, rfl⟩
  · rename_i h; rw [dif_neg h] at hb; exact absurd rfl hb

noncomputable def isT (isa : Str → Str → Bool) (e k : Str) : Option Bool := bif isa k k || k == "ValueError" then some (isa e k) else none
noncomputable def hevT (isa : Str → Str → Bool) (e : Str) (b : Option Bool) : HT → Option Bool
  | .isI k => isT isa e k
  | .notI k => (isT isa e k).map (!·)
  | .notV => b.map (!·)
noncomputable def hevTs (isa : Str → Str → Bool) (e : Str) (b : Option Bool) (o : Bool) : List HT → Option Bool
  | [] => none
  | t :: ts => (hevT isa e b t).bind fun q => bif ts.isEmpty || q == o then some q else hevTs isa e b o ts
noncomputable def constsP : List Const → Option (List PV)
  | [] => some []
  | c :: cs => (constP c).bind fun v => (constsP cs).map (v :: ·)
noncomputable def hsuite (isa : Str → Str → Bool) (e : Str) (hs : HSs) : Option PV :=
  (hevTs isa e none false hs.a).bind fun b => (hevTs isa e (some b) true hs.o).bind fun q => (constsP hs.l).bind fun vs => if hs.l.length < 1000 then vs[(if q then 1 else 0 : Int).toNat]? else none
noncomputable def handled (isa : Str → Str → Bool) (e : Str) (hs : HSs) (ρ : List PV) (σ : AH) : Option Bool → Res FE
  | some true => (match hsuite isa e hs with
    | some v => .ok (.ret v, ρ.map fun _ => .undef) σ
    | none => .bad)
  | some false => .bad
  | none => .bad
noncomputable def tried (isa : Str → Str → Bool) (k : Str) (hs : HSs) (ρ : List PV) : Res PV → Res FE
  | .ok v σ => .ok (.ret v, ρ) σ
  | .exc e σ => handled isa e hs ρ σ (isT isa e k)
  | .bad => .bad
noncomputable def tryR (c : Cx) : TB → List PV → AH → Res PV
  | .last f args, ρ, σ => (evs c args 0 ρ σ).bind fun vs σ1 => c.cal f vs σ1
  | .iff t f args r, ρ, σ => (ev c t 0 ρ σ).bind fun x σ1 => pickB (truth σ1 x) ((evs c args 0 ρ σ1).bind fun vs σ2 => c.cal f vs σ2) (tryR c r ρ σ1)
mutual
noncomputable def exec (c : Cx) : PS → List PV → AH → Res FE
  | .assign i m e, ρ, σ => (ev c e m ρ σ).bindX fun v σ1 => .ok (.next, ρ.set i v) σ1
  | .setitem o i m v, ρ, σ => (ev c v m ρ σ).bindX fun x σ1 => (ev c o 0 ρ σ1).bind fun a σ2 => (ev c i 0 ρ σ2).bind fun k σ3 => match setAt σ3 a k x with
    | some σ4 => .ok (.next, ρ) σ4
    | none => .bad
  | .assignT is e, ρ, σ => (ev c e 0 ρ σ).bind fun v σ1 => match bindT (.many is) v ρ with
    | some ρ1 => .ok (.next, ρ1) σ1
    | none => .bad
  | .whileS t body ks, ρ, σ => whileW (ev c t 0) (execs c body) ks ρ σ
  | .expr e, ρ, σ => (ev c e 0 ρ σ).bind fun _ σ1 => .ok (.next, ρ) σ1
  | .ret m e, ρ, σ => (ev c e m ρ σ).bindX fun v σ1 => .ok (.ret v, ρ) σ1
  | .ite t b o, ρ, σ => (ev c t 0 ρ σ).bind fun x σ1 => match truth σ1 x with
    | some true => execs c b ρ σ1
    | some false => execs c o ρ σ1
    | none => .bad
  | .forS t it body ks, ρ, σ => (ev c it 0 ρ σ).bind fun v σ1 => match items σ1 v with
    | some l => unlock v (lkV σ1 v) (forL (execs c body) t ks l ρ (lockV σ1 v true))
    | none => .bad
  | .raise k _, _, σ => bif c.isa k k && c.isa k "!" then .exc k σ else .bad
  | .tryS b k i hs, ρ, σ => tried c.isa k hs ρ (tryR c b ρ σ)
noncomputable def execs (c : Cx) : PSs → List PV → AH → Res FE
  | .nil, ρ, σ => .ok (.next, ρ) σ
  | .cons s ss, ρ, σ => (exec c s ρ σ).bindX fun r σ1 => match r.1 with
    | .next => execs c ss r.2 σ1
    | f => .ok (f, r.2) σ1
end

noncomputable def Flw.out : Flw → PV
  | .ret v => v
  | _ => .none

open Classical in
noncomputable def left (keep : Bool) (σ : AH) : Res FE → Res PV
  | .ok r σ' =>
      if keep then .ok r.1.out σ'
      else if σ'.take σ.length = σ then match frz σ.length σ' 3 r.1.out with
        | some v => .ok v σ
        | none => .bad
      else .bad
  | .exc k σ' => if σ'.take σ.length = σ then .exc k σ else .bad
  | .bad => .bad
noncomputable def runFn (c : Cx) (f : Fn) (args : List PV) (σ : AH) : Res PV :=
  if args.length = f.nargs then left f.keep σ (execs c f.body (args ++ List.replicate (f.slots - f.nargs) .undef) σ) else .bad

noncomputable def callD (G : Glob) : Nat → Str → List PV → AH → Res PV
  | 0, _, _, _ => .bad
  | d + 1, f, args, σ => match G.fn f with
    | some F => runFn ⟨G.const, callD G d, G.isa, G.atr⟩ F args σ
    | none => .bad

theorem evs_c (c : Cx) (e : PE) (es : PEs) (m : Nat) (ρ : List PV) (σ : AH) : evs c (.cons e es) m ρ σ = (ev c e m ρ σ).bindX fun v σ1 => (evs c es m ρ σ1).bindX fun vs σ2 => .ok (v :: vs) σ2 := rfl
theorem execs_c (c : Cx) (s : PS) (ss : PSs) (ρ : List PV) (σ : AH) : execs c (.cons s ss) ρ σ = (exec c s ρ σ).bindX fun r σ1 => match r.1 with
    | .next => execs c ss r.2 σ1
    | f => .ok (f, r.2) σ1 := rfl
theorem callD_c (G : Glob) (d : Nat) (f : Str) (args : List PV) (σ : AH) : callD G (d + 1) f args σ = match G.fn f with
    | some F => runFn ⟨G.const, callD G d, G.isa, G.atr⟩ F args σ
    | none => .bad := rfl
end Mine

set_option autoImplicit false
set_option backward.match.sparseCases true
namespace Mine
open PySem

open Classical in
theorem left_rf (σ : AH) (v : PV) (ρ : List PV) (σ' : AH) : left false σ (.ok (.ret v, ρ) σ') = if σ'.take σ.length = σ then match frz σ.length σ' 3 v with
        | some v => .ok v σ
        | none => .bad
      else .bad := by unfold left; rfl
theorem mod_ii (σ : AH) (x y : Int) (h : y ≠ 0) : binop σ .Mod (.int x) (.int y) = some (.v (.int (x.fmod y))) := if_neg h
theorem div_ii (σ : AH) (x y : Int) (h : y ≠ 0) : binop σ .FloorDiv (.int x) (.int y) = some (.v (.int (x.fdiv y))) := if_neg h
theorem mul_ii (σ : AH) (x y : Int) (h : IntMulOk x y) : binop σ .Mult (.int x) (.int y) = some (.v (.int (x * y))) := if_pos h
theorem add_ss (σ : AH) (x y : Str) (h : x.length + y.length ≤ 1000000) : binop σ .Add (.str x) (.str y) = some (.v (.str (x ++ y))) := if_pos h
theorem mul_si (σ : AH) (x : Str) (n : Int) (h : n ≤ 1000 ∧ -1000 ≤ n ∧ x.length ≤ 1000) : binop σ .Mult (.str x) (.int n) = some (.v (.str (repStr x n))) := if_pos h
theorem len_lst (σ : AH) (l : List PV) (h : l.length ≤ 1000000) : biP σ .len [.lst l] = some (.v (.int l.length)) := if_pos (decide_eq_true h)
theorem pick_nat {l : List PV} {k : Nat} {v : PV} (hk : k ≤ 1000000) (h : l[k]? = some v) : pickAt l k = some (.v v) :=
  (if_pos ⟨Int.natCast_nonneg k, ar5 hk⟩).trans (show (l[k]?).map Out.v = _ by rw [h]; rfl)
theorem idx_lst (σ : AH) (l : List PV) (k : Nat) (v : PV) (hk : k ≤ 1000000) (h : l[k]? = some v) : getAt σ (.lst l) (.int k) = some (.v v) := pick_nat hk h
theorem mulOk_l {x y : Int} (h1 : -(2 ^ 64) < x) (h2 : x < 2 ^ 64) : IntMulOk x y := .of_left (intBits_le_64 h1 h2)
theorem mulOk_r {x y : Int} (h1 : -(2 ^ 64) < y) (h2 : y < 2 ^ 64) : IntMulOk x y := .of_right (intBits_le_64 h1 h2)
end Mine

set_option autoImplicit false
set_option backward.match.sparseCases false
namespace Mine
open PySem
section
variable (c : Cx) (m : Nat) (ρ : List PV) (σ : AH)
theorem e_const (k : Const) : ev c (.const k) m ρ σ = match constP k with | some v => .ok v σ | none => .bad := rfl
theorem e_loc (i : Nat) : ev c (.loc i) m ρ σ = match ρ[i]? with | some .undef => .bad | some v => .ok v σ | none => .bad := rfl
end
end Mine

set_option autoImplicit false
set_option backward.match.sparseCases true
namespace Mine
open PySem

theorem strLt_irr (x : Str) : strLt x x = false := by simp [strLt]
theorem str_ext {x y : Str} (h : x.cps.toList = y.cps.toList) : x = y := by
  cases x; cases y; simp only [Str.mk.injEq]; exact Array.ext' h
theorem strLt_total {x y : Str} (h1 : strLt x y = false) (h2 : strLt y x = false) : x = y := by
  simp only [strLt, decide_eq_false_iff_not] at h1 h2
  exact str_ext (List.le_antisymm h2 h1)
theorem sortS_perm (l : List Str) : (sortS l).Perm l := List.mergeSort_perm ..
theorem strLe_trans {a b c : Str} (h1 : (!strLt b a) = true) (h2 : (!strLt c b) = true) : (!strLt c a) = true := by
  simp only [strLt, Bool.not_eq_true', decide_eq_false_iff_not] at *
  exact List.le_trans h1 h2
theorem strLe_total (a b : Str) : ((!strLt b a) || (!strLt a b)) = true := by
  simp only [strLt, Bool.or_eq_true, Bool.not_eq_true', decide_eq_false_iff_not]
  exact List.le_total a.cps.toList b.cps.toList
theorem sortS_sorted (l : List Str) : (sortS l).Pairwise fun a b => strLt b a = false := by
  have := List.pairwise_mergeSort (le := fun a b => !strLt b a) (fun a b c => strLe_trans) strLe_total l
  exact this.imp fun h => by simpa using h
theorem sortS_unique {l l' : List Str} (hp : l'.Perm l) (hs : l'.Pairwise fun a b => strLt b a = false) : l' = sortS l :=
  List.Perm.eq_of_pairwise (le := fun a b => strLt b a = false) (fun _ _ _ _ h1 h2 => strLt_total h2 h1) hs (sortS_sorted l) (hp.trans (sortS_perm l).symm)


theorem strLt_of_le_ne {a b : Str} (h : strLt b a = false) (hn : a ≠ b) : strLt a b = true := by
  cases hq : strLt a b with
  | true => rfl
  | false => exact absurd (strLt_total hq h) hn
end Mine

set_option autoImplicit false
set_option backward.match.sparseCases true
set_option linter.unusedSimpArgs false
set_option linter.unusedVariables false
namespace Mine
open PySem

theorem frzW_pure (d : Nat → Option PV) (v : PV) : pureV v = true → frzW d v = some v :=
  PV.rec (motive_1 := fun v => pureV v = true → frzW d v = some v) (motive_2 := fun l => pureVs l = true → frzWs d l = some l) (motive_3 := fun _ => True) (motive_4 := fun _ => True)
    (fun h => nomatch h) (fun _ => rfl) (fun _ _ => rfl) (fun _ _ => rfl) (fun _ _ => rfl) (fun l ih h => congrArg (Option.map PV.tup) (ih h)) (fun l ih h => congrArg (Option.map PV.lst) (ih h)) (fun _ _ h => nomatch h) (fun _ _ h => nomatch h) (fun _ h => nomatch h)
    (fun _ => rfl) (fun v r iv ir h => (congrArg (fun o => Option.bind o fun x => (frzWs d r).map (x :: ·)) (iv (Bool.and_eq_true_iff.mp h).1)).trans (congrArg (Option.map (v :: ·)) (ir (Bool.and_eq_true_iff.mp h).2)))
    trivial (fun _ _ _ _ => trivial) (fun _ _ _ => trivial) v
theorem frzWs_pure (d : Nat → Option PV) (l : List PV) (h : pureVs l = true) : frzWs d l = some l := by
  induction l with
  | nil => rfl
  | cons v r ih =>
    have h := Bool.and_eq_true_iff.mp h
    show (frzW d v).bind _ = _
    rw [frzW_pure d v h.1]
    exact congrArg (Option.map (v :: ·)) (ih h.2)
theorem frz_pure {n k : Nat} {σ : AH} {v : PV} (h : pureV v = true) : frz n σ k v = some v := by
  cases k <;> exact frzW_pure _ v h
theorem pvEq_refl (v : PV) : pureV v = true → pvEq v v = true :=
  PV.rec (motive_1 := fun v => pureV v = true → pvEq v v = true) (motive_2 := fun l => pureVs l = true → pvEqs l l = true) (motive_3 := fun _ => True) (motive_4 := fun _ => True)
    (fun h => nomatch h) (fun _ => rfl) (fun b _ => beq_self_eq_true b) (fun i _ => beq_self_eq_true i) (fun x _ => beq_self_eq_true x) (fun l ih h => ih h) (fun l ih h => ih h) (fun _ _ h => nomatch h) (fun _ _ h => nomatch h) (fun _ h => nomatch h)
    (fun _ => rfl) (fun v r iv ir h => Bool.and_eq_true_iff.mpr ⟨iv (Bool.and_eq_true_iff.mp h).1, ir (Bool.and_eq_true_iff.mp h).2⟩)
    trivial (fun _ _ _ _ => trivial) (fun _ _ _ => trivial) v
theorem pureVs_iff {l : List PV} : pureVs l = true ↔ ∀ v ∈ l, pureV v = true := by
  induction l with
  | nil => exact ⟨fun _ _ h => (List.not_mem_nil h).elim, fun _ => rfl⟩
  | cons v r ih =>
    refine ⟨fun h x hx => ?_, fun h => Bool.and_eq_true_iff.mpr ⟨h v (List.mem_cons_self ..), ih.mpr fun x hx => h x (List.mem_cons_of_mem _ hx)⟩⟩
    have h := Bool.and_eq_true_iff.mp h
    exact (List.mem_cons.mp hx).elim (fun e => e ▸ h.1) (ih.mp h.2 x)
theorem deeps_le {n : Nat} {l : List PV} : (∀ v ∈ l, deep v ≤ n) → deeps l ≤ n := by
  induction l with
  | nil => exact fun _ => Nat.zero_le _
  | cons v r ih => exact fun h => Nat.max_le.mpr ⟨h v (List.mem_cons_self ..), ih fun x hx => h x (List.mem_cons_of_mem _ hx)⟩

noncomputable abbrev DI := List (Str × Int)
noncomputable def dv (d : DI) : List (Str × PV) := d.map fun kv => (kv.1, .int kv.2)
noncomputable def mv (d : DI) : PV := .tup (d.map fun kv => .tup [.str kv.1, .int kv.2])
theorem dv_len (d : DI) : (dv d).length = d.length := by simp [dv]
theorem dv_put (d : DI) (k : Str) (v : Int) : dput (dv d) k (.int v) = dv (dput d k v) := by
  unfold dput dv
  simp only [List.any_map, Function.comp_def, List.map_map]
  split
  · rw [List.map_map]
    apply List.map_congr_left
    intro kv _
    simp only [Function.comp]
    split <;> rfl
  · simp
theorem dv_get (d : DI) (k : Str) : dget (dv d) k = (dget d k).map .int := by
  unfold dget dv
  rw [List.find?_map]
  simp only [Function.comp_def, Option.map_map]
theorem dv_getD (d : DI) (k : Str) : ((dget (dv d) k).getD (.int 0)) = .int ((dget d k).getD 0) := by
  rw [dv_get]; cases dget d k <;> rfl
theorem dv_keys (d : DI) : (dv d).map (·.1) = d.map (·.1) := by simp [dv]
theorem mv_pure (d : DI) : pureV (mv d) = true := by
  refine pureVs_iff.mpr fun v hv => ?_
  refine byC fun hZ => ?_
  obtain ⟨kv, _, rfl⟩ := List.mem_map.mp hv
  refine hZ ?_; clear hZ
  rfl
theorem mv_deep (d : DI) : deep (mv d) ≤ 2 := by
  refine Nat.succ_le_succ (deeps_le fun v hv => ?_)
  obtain ⟨kv, _, rfl⟩ := List.mem_map.mp hv
  exact Nat.le_refl 1
theorem mv_plain (d : DI) : plain (mv d) = true := Bool.and_eq_true_iff.mpr ⟨mv_pure d, decide_eq_true (Nat.le_trans (mv_deep d) (by decide))⟩
theorem dput_mem {α : Type} {d : List (Str × α)} {k x : Str} {v : α} : x ∈ (dput d k v).map (·.1) ↔ x = k ∨ x ∈ d.map (·.1) := by
  unfold dput
  split
  · rename_i h
    rw [List.any_eq_true] at h
    refine byC fun hZ => ?_
    obtain ⟨p, hp, hpk⟩ := h
    refine hZ ?_; clear hZ
    have hpk : p.1 = k := by simpa using hpk
    rw [List.map_map]
    have e : ((fun kv : Str × α => kv.1) ∘ fun kv : Str × α => if kv.1 = k then (kv.1, v) else kv) = fun kv => kv.1 := by
      funext kv; simp only [Function.comp]; split <;> rfl
    rw [e]
    constructor
    · exact .inr
    · rintro (rfl | h)
      · exact List.mem_map.mpr ⟨p, hp, hpk⟩
      · exact h
  · simp [or_comm]
theorem dput_keys_hit {α : Type} {d : List (Str × α)} {k : Str} {v : α} (h : k ∈ d.map (·.1)) : (dput d k v).map (·.1) = d.map (·.1) := by
  unfold dput
  rw [if_pos (by obtain ⟨p, hp, e⟩ := List.mem_map.mp h; exact List.any_eq_true.mpr ⟨p, hp, by simpa using e⟩), List.map_map]
  apply List.map_congr_left
  intro kv _
  simp only [Function.comp]; split <;> rfl
theorem dput_new {α : Type} {d : List (Str × α)} {k : Str} {v : α} (h : k ∉ d.map (·.1)) : dput d k v = d ++ [(k, v)] := by
  unfold dput
  rw [if_neg]
  intro q
  obtain ⟨p, hp, e⟩ := List.any_eq_true.mp q
  exact h (List.mem_map.mpr ⟨p, hp, by simpa using e⟩)
theorem dput_nodup {α : Type} {d : List (Str × α)} {k : Str} {v : α} (h : (d.map (·.1)).Nodup) : ((dput d k v).map (·.1)).Nodup := by
  by_cases hk : k ∈ d.map (·.1)
  · rw [dput_keys_hit hk]; exact h
  · rw [dput_new hk, List.map_append]
    exact List.nodup_append.mpr ⟨h, by simp, by rintro a ha b hb rfl; simp at hb; exact hk (hb ▸ ha)⟩
theorem dget_put {α : Type} {d : List (Str × α)} {k x : Str} {v : α} : dget (dput d k v) x = if x = k then some v else dget d x := by
  by_cases hk : k ∈ d.map (·.1)
  · unfold dput
    rw [if_pos (by obtain ⟨p, hp, e⟩ := List.mem_map.mp hk; exact List.any_eq_true.mpr ⟨p, hp, by simpa using e⟩)]
    induction d with
    | nil => simp at hk
    | cons p d ih =>
      unfold dget at *
      simp only [List.map_cons, List.find?_cons]
      by_cases hp : p.1 = k
      · simp only [hp, if_true]
        by_cases hx : x = k
        · simp [hx]
        · have : ¬ k = x := fun q => hx q.symm
          simp only [this, decide_false, if_neg hx]
          have hgen : ∀ d : List (Str × α), Option.map (fun x => x.2) (List.find? (fun kv => decide (kv.1 = x)) (List.map (fun kv => if kv.1 = k then (kv.1, v) else kv) d)) = Option.map (fun x => x.2) (List.find? (fun kv => decide (kv.1 = x)) d) := by
            intro d
            induction d with
            | nil => rfl
            | cons q d ih =>
              simp only [List.map_cons, List.find?_cons]
              by_cases hq : q.1 = k
              · simp only [hq, if_true, this, decide_false]; exact ih
              · simp only [hq, if_false]
                cases h : decide (q.1 = x)
                · exact ih
                · rfl
          exact hgen d
      · simp only [hp, if_false]
        have hk' : k ∈ d.map (·.1) := by
          rcases List.mem_cons.mp hk with h | h
          · exact absurd h.symm hp
          · exact h
        by_cases hx : p.1 = x
        · have : ¬ x = k := fun q => hp (hx.trans q)
          simp [hx, this]
        · simp only [hx, decide_false]
          exact ih hk'
  · rw [dput_new hk]
    unfold dget
    rw [List.find?_append]
    by_cases hx : x = k
    · subst hx
      rw [if_pos rfl, List.find?_eq_none.mpr]
      · simp
      · intro p hp q
        exact hk (List.mem_map.mpr ⟨p, hp, by simpa using q⟩)
    · rw [if_neg hx]
      have : ¬ k = x := fun q => hx q.symm
      simp [this]
theorem dget_mem {α : Type} {d : List (Str × α)} (hn : (d.map (·.1)).Nodup) {k : Str} {v : α} (h : (k, v) ∈ d) : dget d k = some v := by
  induction d with
  | nil => simp at h
  | cons p d ih =>
    unfold dget at *
    rw [List.map_cons, List.nodup_cons] at hn
    rw [List.find?_cons]
    rcases List.mem_cons.mp h with rfl | h
    · simp
    · have : ¬ p.1 = k := fun q => hn.1 (List.mem_map.mpr ⟨(k, v), h, q.symm⟩)
      simp only [this, decide_false]
      exact ih hn.2 h
theorem mem_of_dget {α : Type} {d : List (Str × α)} {k : Str} {v : α} (h : dget d k = some v) : (k, v) ∈ d := by
  unfold dget at h
  refine byC fun hZ => ?_
  obtain ⟨p, hp, rfl⟩ := Option.map_eq_some_iff.mp h
  refine hZ ?_; clear hZ
  have h1 := List.find?_some hp
  have h2 := List.mem_of_find?_eq_some hp
  have : p.1 = k := by simpa using h1
  subst this; exact h2
theorem dget_some {α : Type} {d : List (Str × α)} {k : Str} (h : k ∈ d.map (·.1)) : ∃ v, dget d k = some v := by
  cases hq : dget d k with
  | some v => exact ⟨v, rfl⟩
  | none =>
    refine byC fun hZ => ?_
    obtain ⟨p, hp, e⟩ := List.mem_map.mp h
    refine hZ ?_; clear hZ
    unfold dget at hq
    have := List.find?_eq_none.mp (Option.map_eq_none_iff.mp hq) p hp
    exact absurd e (by simpa using this)

noncomputable def putF (d : DI) (ms : DI) (n : Int) : DI := ms.foldl (fun d kv => dput d kv.1 ((dget d kv.1).getD 0 + kv.2 * n)) d
theorem putF_nodup {d ms : DI} {n : Int} (h : (d.map (·.1)).Nodup) : ((putF d ms n).map (·.1)).Nodup := by
  unfold putF
  induction ms generalizing d with
  | nil => exact h
  | cons kv ms ih => exact ih (dput_nodup h)
theorem putF_mem {d ms : DI} {n : Int} {x : Str} : x ∈ (putF d ms n).map (·.1) ↔ x ∈ d.map (·.1) ∨ x ∈ ms.map (·.1) := by
  unfold putF
  induction ms generalizing d with
  | nil => simp
  | cons kv ms ih =>
    rw [List.foldl_cons, ih, dput_mem, List.map_cons, List.mem_cons]
    constructor
    · rintro ((h | h) | h)
      · exact .inr (.inl h)
      · exact .inl h
      · exact .inr (.inr h)
    · rintro (h | h | h)
      · exact .inl (.inr h)
      · exact .inl (.inl h)
      · exact .inr h
noncomputable def val (d : DI) (k : Str) : Int := (dget d k).getD 0
noncomputable def madeL (d : DI) : DI := (sortS (d.map (·.1))).filterMap fun k => if val d k ≠ 0 then some (k, val d k) else none
theorem mem_of_nodup_le {α : Type} [DecidableEq α] : ∀ {l m : List α}, l.Nodup → (∀ x ∈ l, x ∈ m) → l.length ≤ m.length
  | [], m, _, _ => Nat.zero_le _
  | x :: l, m, hn, hs => by
    rw [List.nodup_cons] at hn
    have hx := hs x (List.mem_cons_self ..)
    have h1 := mem_of_nodup_le (l := l) (m := m.erase x) hn.2 (fun y hy => by
      have hne : y ≠ x := fun q => hn.1 (q ▸ hy)
      exact (List.mem_erase_of_ne hne).mpr (hs y (List.mem_cons_of_mem _ hy)))
    rw [List.length_erase_of_mem hx] at h1
    have := List.length_pos_of_mem hx
    rw [List.length_cons]; exact ar1 h1 this

noncomputable def Meas (d : DI) : Prop := d.Pairwise (fun a b => strLt a.1 b.1 = true) ∧ ∀ kv ∈ d, kv.1 ≠ (⟨#[]⟩ : Str) ∧ kv.2 ≠ 0
theorem Meas.nodup {d : DI} (h : Meas d) : (d.map (·.1)).Nodup := by
  rw [List.Nodup, List.pairwise_map]
  exact h.1.imp fun {a b} hab q => by rw [q, strLt_irr] at hab; exact nomatch hab
theorem sortS_nodup {l : List Str} (h : l.Nodup) : (sortS l).Pairwise fun a b => strLt a b = true := by
  have h1 := sortS_sorted l
  have h2 : (sortS l).Nodup := (sortS_perm l).symm.nodup h
  exact (h1.and h2).imp fun ⟨a, b⟩ => strLt_of_le_ne a b
theorem madeL_mem {d : DI} {kv : Str × Int} (h : kv ∈ madeL d) : kv.1 ∈ d.map (·.1) ∧ kv.2 = val d kv.1 ∧ kv.2 ≠ 0 := by
  unfold madeL at h
  refine byC fun hZ => ?_
  obtain ⟨k, hk, e⟩ := List.mem_filterMap.mp h
  refine hZ ?_; clear hZ
  split at e
  · cases e; exact ⟨(sortS_perm _).mem_iff.mp hk, rfl, by assumption⟩
  · exact nomatch e
theorem madeL_meas {d : DI} (hn : (d.map (·.1)).Nodup) (he : ∀ k ∈ d.map (·.1), k ≠ (⟨#[]⟩ : Str)) : Meas (madeL d) := by
  refine ⟨?_, fun kv h => ⟨he _ (madeL_mem h).1, (madeL_mem h).2.2⟩⟩
  unfold madeL
  refine List.Pairwise.filterMap _ ?_ (sortS_nodup hn)
  intro a b hab x hx y hy
  split at hx <;> split at hy <;> simp_all
  obtain ⟨rfl, rfl⟩ := hx; obtain ⟨rfl, rfl⟩ := hy; exact hab
end Mine

set_option autoImplicit false
set_option backward.match.sparseCases false
namespace Mine
open PySem


noncomputable abbrev NM := List (Str × NameKind)
noncomputable abbrev VM := List (Str × Nat)

noncomputable def isVar : Option NameKind → Bool
  | some .local | some .cell | some .free => true
  | _ => false
noncomputable def isOwn : Option NameKind → Bool
  | some .local | some .cell => true
  | _ => false
noncomputable def isGlob : Option NameKind → Bool
  | some .globalImplicit => true
  | _ => false
noncomputable def plainName (x : Str) : Bool := !(x == ("__debug__" : Str)) && !(x == ("__classdict__" : Str))

noncomputable def onE {α : Type} (o : Option α) (f : α → Bool) : Bool := match o with
  | some a => f a
  | none => false
theorem onE_inv {α : Type} {o : Option α} {f : α → Bool} (h : onE o f = true) : ∃ a, o = some a ∧ f a = true := by
  cases o with
  | none => cases h
  | some a => exact ⟨a, rfl, h⟩
noncomputable def asName (e : Expr) : Option {q : Str × _ // e = .Name q.1 q.2} := match e with
  | .Name x p => some ⟨(x, p), rfl⟩
  | _ => none
noncomputable def asTup (e : Expr) : Option {q : List Expr × _ × _ // e = .Tuple q.1 q.2.1 q.2.2} := match e with
  | .Tuple es a p => some ⟨(es, a, p), rfl⟩
  | _ => none
noncomputable def chkNames (nm : NM) (vm : VM) : List Nat → List Expr → Bool
  | [], l => l.isEmpty
  | i :: is, l => onE l.head? fun a => onE (asName a) fun x => vm.lookup x.1.1 == some i && isOwn (nm.lookup x.1.1) && chkNames nm vm is l.tail
noncomputable def chkT (nm : NM) (vm : VM) (t : Tgt) (e : Expr) : Bool := match t with
  | .one i => onE (asName e) fun x => vm.lookup x.1.1 == some i && isOwn (nm.lookup x.1.1)
  | .many is => onE (asTup e) fun es => chkNames nm vm is es.1.1

noncomputable def namesOf : List Expr → List Str
  | [] => []
  | .Name x _ :: es => x :: namesOf es
  | _ :: es => namesOf es
noncomputable def tgtNames : Expr → List Str
  | .Name x _ => [x]
  | .Tuple es _ _ => namesOf es
  | _ => []
noncomputable def compNames (nm : NM) (own : NM) : NM := own.map fun (n, k) => if k == .free && nm.lookup n == some .cell then (n, .cell) else (n, k)
noncomputable def compVM (vm : VM) (t : Tgt) (e : Expr) : VM := (tgtNames e).zip (tgtSlots t) ++ vm
noncomputable def compScopeOk (nm : NM) (vm : VM) (e : Expr) (sc : Scope) : Bool :=
  sc.kind == .function && decide ((sc.names.map (·.1)).Nodup) && sc.names.all fun (n, k) => match k with
    | .local => (n == (".0" : Str) && (vm.lookup n).isNone) || (tgtNames e).contains n
    | .free => !(tgtNames e).contains n && (vm.lookup n).isSome && (nm.lookup n == some .cell || nm.lookup n == some .free)
    | .globalImplicit => true
    | _ => false

noncomputable def notSlice : Expr → Bool
  | .Slice .. => false
  | _ => true

noncomputable def Ty.word : Ty → Str
  | .int => "int" | .bool => "bool" | .str => "str" | .tuple => "tuple" | .list => "list" | .dict => "dict"
noncomputable def BI.word : BI → Str
  | .len => "len" | .sorted => "sorted" | .tuple => "tuple" | .dict => "dict" | .range => "range" | .isinst _ => "isinstance"
  | .list => "list" | .int => "int" | .abs => "abs"
noncomputable def BM.word : BM → Str
  | .append => "append" | .pop => "pop"

noncomputable def noDot (f : Str) : Bool := !f.cps.contains 46

noncomputable def okConst : Const → Bool
  | .none | .bool _ | .int _ | .str _ => true
  | _ => false

noncomputable def isTT : PE → Bool
  | .const (.bool true) => true
  | _ => false

noncomputable def ifsOk (tt : Bool) (f : Expr → Bool) : List Expr → Bool
  | [] => tt
  | [e] => f e
  | _ => false

noncomputable def nameOf : Expr → Option Str
  | .Name x _ => some x
  | _ => none
noncomputable def firstTwo : List Expr → Option (Expr × Expr)
  | [e, n] => some (e, n)
  | _ => none
noncomputable def biArgs (nm : NM) (b : BI) (as : List Expr) : Option (List Expr) := match b with
  | .isinst t => (firstTwo as).bind fun p => (nameOf p.2).bind fun y => if (y == t.word && isGlob (nm.lookup y) && plainName y) = true then some [p.1] else none
  | _ => some as
noncomputable def isAnd : BoolOp → Bool
  | .And => true
  | _ => false
noncomputable def isOr : BoolOp → Bool
  | .Or => true
  | _ => false
noncomputable def isNot : UnaryOp → Bool
  | .Not => true
  | _ => false
noncomputable def isNeg : UnaryOp → Bool
  | .USub => true
  | _ => false
noncomputable def compTop (nm : NM) (vm : VM) (t : Tgt) (sc : Scope) (q : Comprehension) (c1 c2 : Bool) (c3 : Expr → Bool) (tt : Bool) : Bool :=
  decide (q.is_async = 0) && c1 && compScopeOk nm vm q.target sc && decide (((compVM vm t q.target).map (·.2)).Nodup) && chkT (compNames nm sc.names) (compVM vm t q.target) t q.target &&
    c2 && ifsOk tt c3 q.ifs
noncomputable def asConst (e : Expr) : Option {q : Const × _ × _ // e = .Constant q.1 q.2.1 q.2.2} := match e with
  | .Constant c a b => some ⟨(c, a, b), rfl⟩
  | _ => none
noncomputable def asBool (e : Expr) : Option {q : BoolOp × List Expr × _ // e = .BoolOp q.1 q.2.1 q.2.2} := match e with
  | .BoolOp o vs p => some ⟨(o, vs, p), rfl⟩
  | _ => none
noncomputable def asBin (e : Expr) : Option {q : Expr × Operator × Expr × _ // e = .BinOp q.1 q.2.1 q.2.2.1 q.2.2.2} := match e with
  | .BinOp l o r p => some ⟨(l, o, r, p), rfl⟩
  | _ => none
noncomputable def asUn (e : Expr) : Option {q : UnaryOp × Expr × _ // e = .UnaryOp q.1 q.2.1 q.2.2} := match e with
  | .UnaryOp o x p => some ⟨(o, x, p), rfl⟩
  | _ => none
noncomputable def asCmp (e : Expr) : Option {q : Expr × List CmpOp × List Expr × _ // e = .Compare q.1 q.2.1 q.2.2.1 q.2.2.2} := match e with
  | .Compare l os rs p => some ⟨(l, os, rs, p), rfl⟩
  | _ => none
noncomputable def asLst (e : Expr) : Option {q : List Expr × _ // e = .List q.1 q.2} := match e with
  | .List es p => some ⟨(es, p), rfl⟩
  | _ => none
noncomputable def asEDict (e : Expr) : Option {q : Pos // e = .Dict [] [] q} := match e with
  | .Dict [] [] p => some ⟨p, rfl⟩
  | _ => none
noncomputable def asSub (e : Expr) : Option {q : Expr × Expr × _ // e = .Subscript q.1 q.2.1 q.2.2} := match e with
  | .Subscript v i p => some ⟨(v, i, p), rfl⟩
  | _ => none
noncomputable def asSlice (e : Expr) : Option {q : Option Expr × Option Expr × Option Expr × _ // e = .Slice q.1 q.2.1 q.2.2.1 q.2.2.2} := match e with
  | .Slice a b c p => some ⟨(a, b, c, p), rfl⟩
  | _ => none
noncomputable def asComp (e : Expr) : Option {q : Expr × List Comprehension × Scope × _ // e = .ListComp q.1 q.2.1 q.2.2.1 q.2.2.2} := match e with
  | .ListComp e gs sc p => some ⟨(e, gs, sc, p), rfl⟩
  | _ => none
noncomputable def asAttr (e : Expr) : Option {q : Expr × Str × _ // e = .Attribute q.1 q.2.1 q.2.2} := match e with
  | .Attribute v x p => some ⟨(v, x, p), rfl⟩
  | _ => none
noncomputable def plainBase (e : Expr) : Bool := (asName e).isSome || (asAttr e).isSome
noncomputable def asCall (e : Expr) : Option {q : Expr × List Expr × _ // e = .Call q.1 q.2.1 [] q.2.2} := match e with
  | .Call f as [] p => some ⟨(f, as, p), rfl⟩
  | _ => none
noncomputable def one1 {α : Type} (l : List α) : Option {a : α // l = [a]} := match l with
  | [a] => some ⟨a, rfl⟩
  | _ => none
noncomputable def twoP {α : Type} (l : List α) : Option {p : α × α // l = [p.1, p.2]} := match l with
  | [a, b] => some ⟨(a, b), rfl⟩
  | _ => none
noncomputable def sl0 : Option Expr × Option Expr × Option Expr × Pos → Option Expr
  | (none, some u, none, _) => some u
  | _ => none
noncomputable def sl1 : Option Expr × Option Expr × Option Expr × Pos → Option Expr
  | (some l, none, none, _) => some l
  | _ => none
noncomputable def sl2 : Option Expr × Option Expr × Option Expr × Pos → Option (Expr × Expr)
  | (some l, some u, none, _) => some (l, u)
  | _ => none
mutual
noncomputable def chkE : PE → NM → VM → Expr → Bool
  | .const c, _, _, e => onE (asConst e) fun p => okConst c && decide (c = p.1.1)
  | .loc i, nm, vm, e => onE (asName e) fun p => vm.lookup p.1.1 == some i && isVar (nm.lookup p.1.1) && plainName p.1.1
  | .andE es, nm, vm, e => onE (asBool e) fun p => isAnd p.1.1 && chkEs es nm vm p.1.2.1
  | .orE es, nm, vm, e => onE (asBool e) fun p => isOr p.1.1 && chkEs es nm vm p.1.2.1
  | .bin op a b, nm, vm, e => onE (asBin e) fun p => decide (op = p.1.2.1) && chkE a nm vm p.1.1 && chkE b nm vm p.1.2.2.1
  | .notE a, nm, vm, e => onE (asUn e) fun p => isNot p.1.1 && chkE a nm vm p.1.2.1
  | .neg a, nm, vm, e => onE (asUn e) fun p => isNeg p.1.1 && chkE a nm vm p.1.2.1
  | .cmp op a b, nm, vm, e => onE (asCmp e) fun p => onE (one1 p.1.2.1) fun q => onE (one1 p.1.2.2.1) fun r => decide (op = q.1) && chkE a nm vm p.1.1 && chkE b nm vm r.1
  | .tup es, nm, vm, e => onE (asTup e) fun p => decide (p.1.1.length < 1000) && chkEs es nm vm p.1.1
  | .lst es, nm, vm, e => onE (asLst e) fun p => decide (p.1.1.length < 1000) && chkEs es nm vm p.1.1
  | .edict, _, _, e => onE (asEDict e) fun _ => true
  | .idx a i, nm, vm, e => onE (asSub e) fun p => chkE a nm vm p.1.1 && chkE i nm vm p.1.2.1
  | .comp elt t it cond, nm, vm, e => onE (asComp e) fun p => onE (one1 p.1.2.1) fun q => compTop nm vm t p.1.2.2.1 q.1 (chkE it nm vm q.1.iter) (chkE elt (compNames nm p.1.2.2.1.names) (compVM vm t q.1.target) p.1.1) (chkE cond (compNames nm p.1.2.2.1.names) (compVM vm t q.1.target)) (isTT cond)
  | .sliceF a lo, nm, vm, e => onE (asSub e) fun p => onE (asSlice p.1.2.1) fun q => onE (sl1 q.1) fun l => chkE a nm vm p.1.1 && chkE lo nm vm l
  | .sliceFT a lo hi, nm, vm, e => onE (asSub e) fun p => onE (asSlice p.1.2.1) fun q => onE (sl2 q.1) fun l => chkE a nm vm p.1.1 && chkE lo nm vm l.1 && chkE hi nm vm l.2
  | .sliceT a hi, nm, vm, e => onE (asSub e) fun p => onE (asSlice p.1.2.1) fun q => onE (sl0 q.1) fun u => chkE a nm vm p.1.1 && chkE hi nm vm u
  | .glob y, nm, _, e => onE (asName e) fun p => p.1.1 == y && isGlob (nm.lookup p.1.1) && plainName p.1.1
  | .call f args, nm, vm, e => onE (asCall e) fun p => onE (asName p.1.1) fun x => x.1.1 == f && isGlob (nm.lookup x.1.1) && plainName x.1.1 && noDot f && chkEs args nm vm p.1.2.1
  | .bi b args, nm, vm, e => onE (asCall e) fun p => onE (asName p.1.1) fun x => isGlob (nm.lookup x.1.1) && x.1.1 == b.word && plainName x.1.1 && onE (biArgs nm b p.1.2.1) (fun l => chkEs args nm vm l)
  | .meth o m args, nm, vm, e => onE (asCall e) fun p => onE (asAttr p.1.1) fun q => q.1.2.1 == m.word && plainBase q.1.1 && q.1.2.2.endLine == p.1.2.2.line && decide (p.1.2.1.length < 20) && chkE o nm vm q.1.1 && chkEs args nm vm p.1.2.1
noncomputable def chkEs : PEs → NM → VM → List Expr → Bool
  | .nil, _, _, l => l.isEmpty
  | .cons e es, nm, vm, l => onE l.head? fun a => chkE e nm vm a && chkEs es nm vm l.tail
end

noncomputable def isComp : Expr → Bool
  | .ListComp .. | .SetComp .. | .DictComp .. => true
  | _ => false
noncomputable def isTupE : Expr → Bool
  | .Tuple .. => true
  | _ => false

noncomputable def foldedT : Expr → Bool
  | .Tuple vs _ _ => vs.all (foldedForSure 8)
  | _ => false
noncomputable def asAssign (s : Stmt) : Option {q : List Expr × Expr × _ // s = .Assign q.1 q.2.1 q.2.2} := match s with
  | .Assign ts v p => some ⟨(ts, v, p), rfl⟩
  | _ => none
noncomputable def asWhile (s : Stmt) : Option {q : Expr × List Stmt × _ // s = .While q.1 q.2.1 [] q.2.2} := match s with
  | .While t b [] p => some ⟨(t, b, p), rfl⟩
  | _ => none
noncomputable def asExprS (s : Stmt) : Option {q : Expr × _ // s = .Expr q.1 q.2} := match s with
  | .Expr v p => some ⟨(v, p), rfl⟩
  | _ => none
noncomputable def asRet (s : Stmt) : Option {q : Expr × _ // s = .Return (some q.1) q.2} := match s with
  | .Return (some v) p => some ⟨(v, p), rfl⟩
  | _ => none
noncomputable def asIf (s : Stmt) : Option {q : Expr × List Stmt × List Stmt × _ // s = .If q.1 q.2.1 q.2.2.1 q.2.2.2} := match s with
  | .If t b o p => some ⟨(t, b, o, p), rfl⟩
  | _ => none
noncomputable def asFor (s : Stmt) : Option {q : Expr × Expr × List Stmt × _ // s = .For q.1 q.2.1 q.2.2.1 [] q.2.2.2} := match s with
  | .For tg it b [] p => some ⟨(tg, it, b, p), rfl⟩
  | _ => none
noncomputable def asRaise (s : Stmt) : Option {q : Expr × _ // s = .Raise (some q.1) none q.2} := match s with
  | .Raise (some v) none p => some ⟨(v, p), rfl⟩
  | _ => none
noncomputable def asTry (s : Stmt) : Option {q : List Stmt × List ExceptHandler × _ // s = .Try q.1 q.2.1 [] [] q.2.2} := match s with
  | .Try b h [] [] p => some ⟨(b, h, p), rfl⟩
  | _ => none
noncomputable def asHand (s : ExceptHandler) : Option {q : Expr × Str × List Stmt × _ // s = .ExceptHandler (some q.1) (some q.2.1) q.2.2.1 q.2.2.2} := match s with
  | .ExceptHandler (some t) (some n) b p => some ⟨(t, n, b, p), rfl⟩
  | _ => none
noncomputable def two2 {α : Type} (l : List α) : Option {q : α × α // l = [q.1, q.2]} := match l with
  | [a, b] => some ⟨(a, b), rfl⟩
  | _ => none
noncomputable def chkCs : List Const → List Expr → Bool
  | [], l => l.isEmpty
  | c :: cs, l => onE l.head? fun a => onE (asConst a) (fun p => okConst c && decide (c = p.1.1)) && chkCs cs l.tail
noncomputable def chkIsi (k : Str) (nm : NM) (n : Str) (e : Expr) : Bool := onE (asCall e) fun p => onE (asName p.1.1) fun x => onE (two2 p.1.2.1) fun a => onE (asName a.1.1) fun y => onE (asName a.1.2) fun z =>
  x.1.1 == "isinstance" && isGlob (nm.lookup x.1.1) && y.1.1 == n && z.1.1 == k && isGlob (nm.lookup z.1.1) && plainName z.1.1
noncomputable def chkHT : HT → NM → Str → Str → Expr → Bool
  | .isI k, nm, n, _, e => chkIsi k nm n e
  | .notI k, nm, n, _, e => onE (asUn e) fun p => isNot p.1.1 && chkIsi k nm n p.1.2.1
  | .notV, _, _, y, e => onE (asUn e) fun p => onE (asName p.1.2.1) fun q => isNot p.1.1 && q.1.1 == y
noncomputable def chkHTs : List HT → NM → Str → Str → List Expr → Bool
  | [], _, _, _, l => l.isEmpty
  | e :: es, nm, n, y, l => onE l.head? fun a => chkHT e nm n y a && chkHTs es nm n y l.tail
noncomputable def hsZ (hs : HSs) (nm : NM) (n x : Str) (ao : BoolOp) (avs ls : List Expr) (fi : Str) (oo : BoolOp) (ovs : List Expr) : Bool :=
    (x == hs.y && !(hs.y == n) && nm.lookup hs.y == some .local && plainName hs.y) && (isAnd ao && chkHTs hs.a nm n hs.y avs) && (fi == "int" && isGlob (nm.lookup fi)) && (isOr oo && chkHTs hs.o nm n hs.y ovs) && chkCs hs.l ls
section
variable (hs : HSs) (nm : NM) (n : Str)
noncomputable def hsB (x : Str) (ao : BoolOp) (avs ls : List Expr) (fi : Str) (a1 : Expr) : Bool := onE (asBool a1) fun ob => hsZ hs nm n x ao avs ls fi ob.1.1 ob.1.2.1
noncomputable def hsA (x : Str) (ao : BoolOp) (avs ls : List Expr) (fi : Str) (as : List Expr) : Bool := onE (one1 as) fun a1 => hsB hs nm n x ao avs ls fi a1.1
noncomputable def hs9 (x : Str) (ao : BoolOp) (avs ls : List Expr) (fe : Expr) (as : List Expr) : Bool := onE (asName fe) fun cn => hsA hs nm n x ao avs ls cn.1.1 as
noncomputable def hs8 (x : Str) (ao : BoolOp) (avs ls : List Expr) (ix : Expr) : Bool := onE (asCall ix) fun ca => hs9 hs nm n x ao avs ls ca.1.1 ca.1.2.1
noncomputable def hs7 (x : Str) (ao : BoolOp) (avs : List Expr) (a ix : Expr) : Bool := onE (asLst a) fun l => hs8 hs nm n x ao avs l.1.1 ix
noncomputable def hs6 (x : Str) (ao : BoolOp) (avs : List Expr) (rv : Expr) : Bool := onE (asSub rv) fun sb => hs7 hs nm n x ao avs sb.1.1 sb.1.2.1
noncomputable def hs5 (x : Str) (ao : BoolOp) (avs : List Expr) (s2 : Stmt) : Bool := onE (asRet s2) fun r => hs6 hs nm n x ao avs r.1.1
noncomputable def hs4 (x : Str) (av : Expr) (s2 : Stmt) : Bool := onE (asBool av) fun ab => hs5 hs nm n x ab.1.1 ab.1.2.1 s2
noncomputable def hs3 (t av : Expr) (s2 : Stmt) : Bool := onE (asName t) fun x => hs4 hs nm n x.1.1 av s2
noncomputable def hs2 (ts : List Expr) (av : Expr) (s2 : Stmt) : Bool := onE (one1 ts) fun t => hs3 hs nm n t.1 av s2
noncomputable def hs1 (s1 s2 : Stmt) : Bool := onE (asAssign s1) fun p => hs2 hs nm n p.1.1 p.1.2.1 s2
noncomputable def chkHS (l : List Stmt) : Bool := onE (two2 l) fun s => hs1 hs nm n s.1.1 s.1.2
end
section
variable (nm : NM) (vm : VM)
noncomputable def chkR (f : Str) (args : PEs) (l : List Stmt) : Bool := onE (one1 l) fun r => onE (asRet r.1) fun v => chkE (.call f args) nm vm v.1.1
noncomputable def chkI (t : PE) (f : Str) (args : PEs) (s : Stmt) : Bool := onE (asIf s) fun p => chkE t nm vm p.1.1 && chkR nm vm f args p.1.2.1 && p.1.2.2.1.isEmpty
noncomputable def chkTB : TB → List Stmt → Bool
  | .last f args, l => chkR nm vm f args l
  | .iff t f args r, l => onE l.head? fun s => chkI nm vm t f args s && chkTB r l.tail
variable (b : TB) (k : Str) (i : Nat) (hs : HSs)
noncomputable def trZ (l : List Stmt) (y n : Str) (suite : List Stmt) : Bool := y == k && isGlob (nm.lookup y) && plainName y && vm.lookup n == some i && nm.lookup n == some .local && plainName n && chkTB nm vm b l && chkHS hs nm n suite
noncomputable def tr5 (l : List Stmt) (te : Expr) (n : Str) (suite : List Stmt) : Bool := onE (asName te) fun y => trZ nm vm b k i hs l y.1.1 n suite
noncomputable def tr4 (l : List Stmt) (h : ExceptHandler) : Bool := onE (asHand h) fun q => tr5 nm vm b k i hs l q.1.1 q.1.2.1 q.1.2.2.1
noncomputable def tr3 (l : List Stmt) (hds : List ExceptHandler) : Bool := onE (one1 hds) fun h => tr4 nm vm b k i hs l h.1
end
mutual
noncomputable def chkS : PS → NM → VM → Stmt → Bool
  | .assign i _ e, nm, vm, s => onE (asAssign s) fun p => onE (one1 p.1.1) fun t => onE (asName t.1) fun x => vm.lookup x.1.1 == some i && isOwn (nm.lookup x.1.1) && chkE e nm vm p.1.2.1
  | .setitem o i _ v, nm, vm, s => onE (asAssign s) fun p => onE (one1 p.1.1) fun t => onE (asSub t.1) fun q => chkE o nm vm q.1.1 && chkE i nm vm q.1.2.1 && chkE v nm vm p.1.2.1
  | .assignT is e, nm, vm, s => onE (asAssign s) fun p => onE (one1 p.1.1) fun t => onE (asTup t.1) fun es => (!isTupE p.1.2.1 || foldedT p.1.2.1) && chkNames nm vm is es.1.1 && chkE e nm vm p.1.2.1
  | .whileS t b _, nm, vm, s => onE (asWhile s) fun p => chkE t nm vm p.1.1 && chkSs b nm vm p.1.2.1
  | .expr e, nm, vm, s => onE (asExprS s) fun p => !isComp p.1.1 && chkE e nm vm p.1.1
  | .ret _ e, nm, vm, s => onE (asRet s) fun p => chkE e nm vm p.1.1
  | .ite t b o, nm, vm, s => onE (asIf s) fun p => chkE t nm vm p.1.1 && chkSs b nm vm p.1.2.1 && chkSs o nm vm p.1.2.2.1
  | .forS t it b _, nm, vm, s => onE (asFor s) fun p => chkT nm vm t p.1.1 && chkE it nm vm p.1.2.1 && chkSs b nm vm p.1.2.2.1
  | .raise k x, nm, vm, s => onE (asRaise s) fun p => onE (asCall p.1.1) fun q => onE (asName q.1.1) fun n => onE (one1 q.1.2.1) fun a => n.1.1 == k && isGlob (nm.lookup n.1.1) && plainName n.1.1 && chkE (.const (.str x)) nm vm a.1
  | .tryS b k i hs, nm, vm, s => onE (asTry s) fun p => tr3 nm vm b k i hs p.1.1 p.1.2.1
noncomputable def chkSs : PSs → NM → VM → List Stmt → Bool
  | .nil, _, _, l => l.isEmpty
  | .cons s ss, nm, vm, l => onE l.head? fun a => chkS s nm vm a && chkSs ss nm vm l.tail
end
theorem fmConst {e : Expr} {f : _ → Bool} (h : onE (asConst e) f = true) : ∃ k a b, e = .Constant k a b := (onE_inv h).elim fun q _ => ⟨_, _, _, q.2⟩
theorem fmName {e : Expr} {f : _ → Bool} (h : onE (asName e) f = true) : ∃ x p, e = .Name x p := (onE_inv h).elim fun q _ => ⟨_, _, q.2⟩
theorem fmBool {e : Expr} {f : _ → Bool} (h : onE (asBool e) f = true) : ∃ o vs p, e = .BoolOp o vs p := (onE_inv h).elim fun q _ => ⟨_, _, _, q.2⟩
theorem fmBin {e : Expr} {f : _ → Bool} (h : onE (asBin e) f = true) : ∃ l o r p, e = .BinOp l o r p := (onE_inv h).elim fun q _ => ⟨_, _, _, _, q.2⟩
theorem fmUn {e : Expr} {f : _ → Bool} (h : onE (asUn e) f = true) : ∃ o x p, e = .UnaryOp o x p := (onE_inv h).elim fun q _ => ⟨_, _, _, q.2⟩
theorem fmCmp {e : Expr} {f : _ → Bool} (h : onE (asCmp e) f = true) : ∃ l o r p, e = .Compare l o r p := (onE_inv h).elim fun q _ => ⟨_, _, _, _, q.2⟩
theorem fmTup {e : Expr} {f : _ → Bool} (h : onE (asTup e) f = true) : ∃ es c p, e = .Tuple es c p := (onE_inv h).elim fun q _ => ⟨_, _, _, q.2⟩
theorem fmLst {e : Expr} {f : _ → Bool} (h : onE (asLst e) f = true) : ∃ es p, e = .List es p := (onE_inv h).elim fun q _ => ⟨_, _, q.2⟩
theorem fmEDict {e : Expr} {f : _ → Bool} (h : onE (asEDict e) f = true) : ∃ p, e = .Dict [] [] p := (onE_inv h).elim fun q _ => ⟨_, q.2⟩
theorem fmSub {e : Expr} {f : _ → Bool} (h : onE (asSub e) f = true) : ∃ v i p, e = .Subscript v i p := (onE_inv h).elim fun q _ => ⟨_, _, _, q.2⟩
theorem fmSlice {e : Expr} {f : _ → Bool} (h : onE (asSlice e) f = true) : ∃ a b c p, e = .Slice a b c p := (onE_inv h).elim fun q _ => ⟨_, _, _, _, q.2⟩
theorem fmComp {e : Expr} {f : _ → Bool} (h : onE (asComp e) f = true) : ∃ e' gs sc p, e = .ListComp e' gs sc p := (onE_inv h).elim fun q _ => ⟨_, _, _, _, q.2⟩
theorem fmAttr {e : Expr} {f : _ → Bool} (h : onE (asAttr e) f = true) : ∃ v x p, e = .Attribute v x p := (onE_inv h).elim fun q _ => ⟨_, _, _, q.2⟩
theorem fmCall {e : Expr} {f : _ → Bool} (h : onE (asCall e) f = true) : ∃ g as p, e = .Call g as [] p := (onE_inv h).elim fun q _ => ⟨_, _, _, q.2⟩
theorem fmAssign {s : Stmt} {f : _ → Bool} (h : onE (asAssign s) f = true) : ∃ ts v p, s = .Assign ts v p := (onE_inv h).elim fun q _ => ⟨_, _, _, q.2⟩
theorem fmWhile {s : Stmt} {f : _ → Bool} (h : onE (asWhile s) f = true) : ∃ t b p, s = .While t b [] p := (onE_inv h).elim fun q _ => ⟨_, _, _, q.2⟩
theorem fmExprS {s : Stmt} {f : _ → Bool} (h : onE (asExprS s) f = true) : ∃ v p, s = .Expr v p := (onE_inv h).elim fun q _ => ⟨_, _, q.2⟩
theorem fmRet {s : Stmt} {f : _ → Bool} (h : onE (asRet s) f = true) : ∃ v p, s = .Return (some v) p := (onE_inv h).elim fun q _ => ⟨_, _, q.2⟩
theorem fmIf {s : Stmt} {f : _ → Bool} (h : onE (asIf s) f = true) : ∃ t b o p, s = .If t b o p := (onE_inv h).elim fun q _ => ⟨_, _, _, _, q.2⟩
theorem fmFor {s : Stmt} {f : _ → Bool} (h : onE (asFor s) f = true) : ∃ tg it b p, s = .For tg it b [] p := (onE_inv h).elim fun q _ => ⟨_, _, _, _, q.2⟩
theorem fmRaise {s : Stmt} {f : _ → Bool} (h : onE (asRaise s) f = true) : ∃ v p, s = .Raise (some v) none p := (onE_inv h).elim fun q _ => ⟨_, _, q.2⟩
theorem fmTry {s : Stmt} {f : _ → Bool} (h : onE (asTry s) f = true) : ∃ b hs p, s = .Try b hs [] [] p := (onE_inv h).elim fun q _ => ⟨_, _, _, q.2⟩
theorem fmHand {s : ExceptHandler} {f : _ → Bool} (h : onE (asHand s) f = true) : ∃ t n b p, s = .ExceptHandler (some t) (some n) b p := (onE_inv h).elim fun q _ => ⟨_, _, _, _, q.2⟩
theorem fm2 {α : Type} {l : List α} {f : _ → Bool} (h : onE (two2 l) f = true) : ∃ a b, l = [a, b] := (onE_inv h).elim fun q _ => ⟨_, _, q.2⟩
theorem fm1 {α : Type} {l : List α} {f : _ → Bool} (h : onE (one1 l) f = true) : ∃ a, l = [a] := (onE_inv h).elim fun q _ => ⟨_, q.2⟩
theorem fmP {α : Type} {l : List α} {f : _ → Bool} (h : onE (twoP l) f = true) : ∃ a b, l = [a, b] := (onE_inv h).elim fun q _ => ⟨_, _, q.2⟩
end Mine

set_option autoImplicit false
set_option backward.match.sparseCases true
namespace Mine
open PySem

structure Cfg where
  μ : List Addr
  Φ : Addr → Prop
  lk : Addr → Prop

section
variable (prog : Program) (w : World) (g : Cfg) (h : Heap)

noncomputable def IsRng (h : Heap) (a : Addr) (lo hi : Int) : Prop := lo.natAbs ≤ 1000000 ∧ hi.natAbs ≤ 1000000 ∧ ∃ t u v, IsRange h a lo hi 1 t u v

noncomputable def IsTupX (h : Heap) (a : Addr) (vs : Array Value) : Prop := ∃ n, h.get? a = some { cls := .type "tuple", dict := none, data := .seq vs n, slots := #[] }

noncomputable def IsListX (h : Heap) (a : Addr) (vs : Array Value) : Prop := ∃ n, h.get? a = some { cls := .type "list", dict := none, data := .seq vs n, slots := #[] }

mutual
inductive VR : PV → Value → Prop where
  | none : VR .none .none
  | bool (b : Bool) : VR (.bool b) (.bool b)
  | int (i : Int) (t : Tok) : VR (.int i) (.int i t)
  | str (x : Str) (t : Tok) : VR (.str x) (.str x t)
  | tup {l : List PV} {a : Addr} {vs : Array Value} : g.Φ a → IsTupX h a vs → VRs l vs.toList → VR (.tup l) (.ref a)
  | lst {l : List PV} {a : Addr} {vs : Array Value} : g.Φ a → IsListX h a vs → VRs l vs.toList → VR (.lst l) (.ref a)
  | dct {l : List (Str × PV)} {a : Addr} {kvs : List (Str × Value)} : g.Φ a → a ≠ sysModules → h.DictOf (strKind prog w) a kvs → VRd l kvs → VR (.dct l) (.ref a)
  | rng {lo hi : Int} {a : Addr} : g.Φ a → IsRng h a lo hi → VR (.rng lo hi) (.ref a)
  | ref {i : Nat} {a : Addr} : g.μ[i]? = some a → VR (.ref i) (.ref a)
inductive VRs : List PV → List Value → Prop where
  | nil : VRs [] []
  | cons {v : PV} {x : Value} {l : List PV} {r : List Value} : VR v x → VRs l r → VRs (v :: l) (x :: r)
inductive VRd : List (Str × PV) → List (Str × Value) → Prop where
  | nil : VRd [] []
  | cons {k : Str} {v : PV} {x : Value} {l : List (Str × PV)} {r : List (Str × Value)} : VR v x → VRd l r → VRd ((k, v) :: l) ((k, x) :: r)
end

noncomputable def OR : AObj → Addr → Prop
  | .list b l, a => (b = true ↔ g.lk a) ∧ ∃ vs, IsListX h a vs ∧ VRs prog w g h l vs.toList
  | .dict b l, a => (b = true ↔ g.lk a) ∧ ∃ kvs, h.DictOf (strKind prog w) a kvs ∧ VRd prog w g h l kvs

structure Rel (B : Heap) (σ : AH) : Prop where
  len : g.μ.length = σ.length
  nodup : g.μ.Nodup
  disj : ∀ a ∈ g.μ, ¬ g.Φ a
  lkμ : ∀ a, g.lk a → a ∈ g.μ
  live : ∀ a, g.Φ a → (h.get? a).isSome = true
  base : ∀ b o, B.get? b = some o → h.get? b = some o
  baseμ : ∀ a ∈ g.μ, B.get? a = none
  objs : ∀ (i : Nat) o a, σ[i]? = some o → g.μ[i]? = some a → OR prog w g h o a
end

noncomputable def dDd : Data → Bool
  | .dict _ _ => true
  | _ => false
noncomputable def dD (o : Obj) : Bool := dDd o.data
noncomputable def Sim (o o' : Obj) : Prop := o' = o ∨ (dD o = true ∧ ∃ sl, o' = { o with slots := sl })
theorem Sim.dD {o o' : Obj} (x : Sim o o') (h : dD o = true) : dD o' = true := by
  rcases x with rfl | ⟨_, sl, rfl⟩ <;> exact h
theorem Sim.eq {o o' : Obj} (x : Sim o o') (h : Mine.dD o = false) : o' = o := x.elim id fun q => by rw [h] at q; cases q.1
theorem Sim.trans {a b c : Obj} (x : Sim a b) (y : Sim b c) : Sim a c := by
  rcases x with rfl | ⟨h1, sl, rfl⟩
  · exact y
  · rcases y with rfl | ⟨_, sl', rfl⟩
    · exact .inr ⟨h1, sl, rfl⟩
    · exact .inr ⟨h1, sl', rfl⟩
theorem Sim.ns {h h' : Heap} {a : Addr} {m : Str → Option Value} (hk : ∀ o, h.get? a = some o → ∃ o', h'.get? a = some o' ∧ Sim o o') (x : h.Ns a m) : h'.Ns a m := by
  refine byC fun hZ => ?_
  obtain ⟨o, es, ep, h1, h2, r⟩ := x
  obtain ⟨o', h3, h4⟩ := hk o h1
  refine hZ ?_; clear hZ
  rcases h4 with rfl | ⟨_, sl, rfl⟩
  · exact ⟨_, es, ep, h3, h2, r⟩
  · exact ⟨_, es, ep, h3, h2, r⟩

structure Ext (own : Addr → Prop) (g : Cfg) (s : Shared) (g' : Cfg) (s' : Shared) : Prop where
  pre : g.μ <+: g'.μ
  sub : ∀ a, g.Φ a → g'.Φ a
  newμ : ∀ a ∈ g'.μ, a ∈ g.μ ∨ s.heap.get? a = none
  newΦ : ∀ a, g'.Φ a → g.Φ a ∨ s.heap.get? a = none
  lock : g'.lk = g.lk
  keep : ∀ b o, s.heap.get? b = some o → b ∉ g.μ → ¬ own b → ∃ o', s'.heap.get? b = some o' ∧ Sim o o'
  keepF : ∀ b o, s.heap.get? b = some o → (b ∉ g.μ ∧ g.Φ b ∨ g.lk b) → ¬ own b → s'.heap.get? b = some o
  live : ∀ b, (s.heap.get? b).isSome = true → (s'.heap.get? b).isSome = true
  gens : s'.gens = s.gens
  os : s'.os = s.os

noncomputable abbrev noOwn : Addr → Prop := fun _ => False

theorem isSome_of {α : Type} {x : Option α} {a : α} (h : x = some a) : x.isSome = true := by rw [h]; rfl
theorem none_of_live {s s' : Shared} (hl : ∀ b, (s.heap.get? b).isSome = true → (s'.heap.get? b).isSome = true) {b : Addr} (e : s'.heap.get? b = none) : s.heap.get? b = none := by
  cases hq : s.heap.get? b with
  | none => rfl
  | some o => have := hl b (isSome_of hq); rw [e] at this; cases this

namespace Ext
variable {own own' : Addr → Prop} {g g' g'' : Cfg} {s s' s'' : Shared}

theorem refl (g : Cfg) (s : Shared) : Ext own g s g s :=
  ⟨List.prefix_refl _, fun _ h => h, fun _ h => .inl h, fun _ h => .inl h, rfl, fun _ o e _ _ => ⟨o, e, .inl rfl⟩, fun _ _ e _ _ => e, fun _ h => h, rfl, rfl⟩

theorem notμ (e : Ext own g s g' s') {b : Addr} {o : Obj} (hb : s.heap.get? b = some o) (hn : b ∉ g.μ) : b ∉ g'.μ := fun hm =>
  (e.newμ b hm).elim hn fun hq => by rw [hb] at hq; cases hq
theorem notΦ (e : Ext own g s g' s') {b : Addr} {o : Obj} (hb : s.heap.get? b = some o) (hn : ¬ g.Φ b) : ¬ g'.Φ b := fun hm =>
  (e.newΦ b hm).elim hn fun hq => by rw [hb] at hq; cases hq

theorem trans (x : Ext own g s g' s') (y : Ext own g' s' g'' s'') : Ext own g s g'' s'' where
  pre := x.pre.trans y.pre
  sub := fun a h => y.sub a (x.sub a h)
  newμ := fun a h => (y.newμ a h).elim (x.newμ a) fun q => .inr (none_of_live x.live q)
  newΦ := fun a h => (y.newΦ a h).elim (x.newΦ a) fun q => .inr (none_of_live x.live q)
  lock := y.lock.trans x.lock
  keep := fun b o e hn ho => by
    refine byC fun hZ => ?_
    obtain ⟨o1, h1, h2⟩ := x.keep b o e hn ho
    obtain ⟨o2, h3, h4⟩ := y.keep b o1 h1 (x.notμ e hn) ho
    refine hZ ?_; clear hZ
    exact ⟨o2, h3, h2.trans h4⟩
  keepF := fun b o e hn ho => y.keepF b o (x.keepF b o e hn ho) (hn.imp (fun q => ⟨x.notμ e q.1, x.sub b q.2⟩) fun q => x.lock ▸ q) ho
  live := fun b h => y.live b (x.live b h)
  gens := y.gens.trans x.gens
  os := y.os.trans x.os

theorem mono (x : Ext own g s g' s') (h : ∀ a, own a → own' a) : Ext own' g s g' s' :=
  { x with keep := fun b o e hn ho => x.keep b o e hn fun q => ho (h b q), keepF := fun b o e hn ho => x.keepF b o e hn fun q => ho (h b q) }
theorem weaken (x : Ext noOwn g s g' s') : Ext own g s g' s' := x.mono fun _ h => h.elim

theorem keepN (x : Ext own g s g' s') {b : Addr} {o : Obj} (e : s.heap.get? b = some o) (hn : b ∉ g.μ) (ho : ¬ own b) (hd : dD o = false) : s'.heap.get? b = some o := by
  refine byC fun hZ => ?_
  obtain ⟨o', h1, h2⟩ := x.keep b o e hn ho
  refine hZ ?_; clear hZ
  rw [h1, h2.eq hd]
theorem keepNs (x : Ext own g s g' s') {b : Addr} {m : Str → Option Value} (e : s.heap.Ns b m) (hn : b ∉ g.μ) (ho : ¬ own b) : s'.heap.Ns b m := Sim.ns (fun o q => x.keep b o q hn ho) e
noncomputable def _root_.Mine.Fast (g : Cfg) (h : Heap) (b : Addr) : Prop := ∃ o, h.get? b = some o ∧ (b ∉ g.μ ∧ (g.Φ b ∨ dD o = false) ∨ g.lk b)
theorem fast (x : Ext own g s g' s') {b : Addr} (ho : ¬ own b) (f : Fast g s.heap b) : Fast g' s'.heap b ∧ ∀ o, s.heap.get? b = some o → s'.heap.get? b = some o := by
  refine byC fun hZ => ?_
  obtain ⟨o, h1, h2⟩ := f
  refine hZ ?_; clear hZ
  have h3 : s'.heap.get? b = some o := by
    rcases h2 with ⟨a, q | q⟩ | q
    · exact x.keepF b o h1 (.inl ⟨a, q⟩) ho
    · exact x.keepN h1 a ho q
    · exact x.keepF b o h1 (.inr q) ho
  refine ⟨⟨o, h3, h2.imp (fun q => ⟨x.notμ h1 q.1, q.2.imp (x.sub b) id⟩) fun q => by rw [x.lock]; exact q⟩, fun o' e => ?_⟩
  rw [h1] at e; cases e; exact h3
theorem toks {t : Nat} (x : Ext own g s g' s') : Ext own g s g' { s' with toks := t } :=
  { x with }
theorem toks_left {t : Nat} (x : Ext own g { s with toks := t } g' s') : Ext own g s g' s' :=
  { x with }
end Ext

section
variable {prog : Program} {w : World} {g g' : Cfg} {h h' : Heap}

theorem Fast.but {b : Addr} (f : Fast g h b) (hk : ∀ o, h.get? b = some o → h'.get? b = some o) : Fast g h' b := let ⟨o, h1, h2⟩ := f; ⟨o, hk o h1, h2⟩
theorem VR.ind {P : PV → Value → Prop} {Q : List PV → List Value → Prop} {S : List (Str × PV) → List (Str × Value) → Prop}
    (h1 : P .none .none) (h2 : ∀ b, P (.bool b) (.bool b)) (h3 : ∀ i t, P (.int i) (.int i t)) (h4 : ∀ x t, P (.str x) (.str x t))
    (h5 : ∀ l a vs, g.Φ a → IsTupX h a vs → VRs prog w g h l vs.toList → Q l vs.toList → P (.tup l) (.ref a))
    (h6 : ∀ l a vs, g.Φ a → IsListX h a vs → VRs prog w g h l vs.toList → Q l vs.toList → P (.lst l) (.ref a))
    (h7 : ∀ l a kvs, g.Φ a → a ≠ sysModules → h.DictOf (strKind prog w) a kvs → VRd prog w g h l kvs → S l kvs → P (.dct l) (.ref a))
    (h8 : ∀ lo hi a, g.Φ a → IsRng h a lo hi → P (.rng lo hi) (.ref a)) (h9 : ∀ i a, g.μ[i]? = some a → P (.ref i) (.ref a))
    (h10 : Q [] []) (h11 : ∀ v x l r, VR prog w g h v x → VRs prog w g h l r → P v x → Q l r → Q (v :: l) (x :: r))
    (h12 : S [] []) (h13 : ∀ k v x l r, VR prog w g h v x → VRd prog w g h l r → P v x → S l r → S ((k, v) :: l) ((k, x) :: r)) :
    (∀ {v x}, VR prog w g h v x → P v x) ∧ (∀ {l r}, VRs prog w g h l r → Q l r) ∧ ∀ {l r}, VRd prog w g h l r → S l r :=
  ⟨fun q => q.rec (motive_1 := fun v x _ => P v x) (motive_2 := fun l r _ => Q l r) (motive_3 := fun l r _ => S l r) h1 h2 h3 h4 (fun a b c d => h5 _ _ _ a b c d) (fun a b c d => h6 _ _ _ a b c d) (fun a b c d e => h7 _ _ _ a b c d e) (fun a b => h8 _ _ _ a b) (fun a => h9 _ _ a) h10 (fun a b c d => h11 _ _ _ _ a b c d) h12 (fun a b c d => h13 _ _ _ _ _ a b c d),
   fun q => q.rec (motive_1 := fun v x _ => P v x) (motive_2 := fun l r _ => Q l r) (motive_3 := fun l r _ => S l r) h1 h2 h3 h4 (fun a b c d => h5 _ _ _ a b c d) (fun a b c d => h6 _ _ _ a b c d) (fun a b c d e => h7 _ _ _ a b c d e) (fun a b => h8 _ _ _ a b) (fun a => h9 _ _ a) h10 (fun a b c d => h11 _ _ _ _ a b c d) h12 (fun a b c d => h13 _ _ _ _ _ a b c d),
   fun q => q.rec (motive_1 := fun v x _ => P v x) (motive_2 := fun l r _ => Q l r) (motive_3 := fun l r _ => S l r) h1 h2 h3 h4 (fun a b c d => h5 _ _ _ a b c d) (fun a b c d => h6 _ _ _ a b c d) (fun a b c d e => h7 _ _ _ a b c d e) (fun a b => h8 _ _ _ a b) (fun a => h9 _ _ a) h10 (fun a b c d => h11 _ _ _ _ a b c d) h12 (fun a b c d => h13 _ _ _ _ _ a b c d)⟩
theorem VR.mono3 (hp : g.μ <+: g'.μ) (hs : ∀ a, g.Φ a → g'.Φ a) (hk : ∀ a o, g.Φ a → h.get? a = some o → h'.get? a = some o) :
    (∀ {v x}, VR prog w g h v x → VR prog w g' h' v x) ∧ (∀ {l r}, VRs prog w g h l r → VRs prog w g' h' l r) ∧ ∀ {l r}, VRd prog w g h l r → VRd prog w g' h' l r :=
  VR.ind .none .bool .int .str (fun _ _ _ ha ho _ q => .tup (hs _ ha) (ho.elim fun n e => ⟨n, hk _ _ ha e⟩) q) (fun _ _ _ ha ho _ q => .lst (hs _ ha) (ho.elim fun n e => ⟨n, hk _ _ ha e⟩) q)
    (fun _ _ _ ha hm ho _ q => .dct (hs _ ha) hm (let ⟨o, es, ep, e, r⟩ := ho; ⟨o, es, ep, hk _ _ ha e, r⟩) q) (fun _ _ _ ha ho => .rng (hs _ ha) (let ⟨b1, b2, t, u, v, e⟩ := ho; ⟨b1, b2, t, u, v, hk _ _ ha e⟩))
    (fun _ _ hi => .ref (by
      obtain ⟨t, ht⟩ := hp
      have hlt := (List.getElem?_eq_some_iff.mp hi).1
      rw [← ht, List.getElem?_append_left hlt]; exact hi)) .nil (fun _ _ _ _ _ _ a b => .cons a b) .nil (fun _ _ _ _ _ _ _ a b => .cons a b)
theorem VR.mono (hp : g.μ <+: g'.μ) (hs : ∀ a, g.Φ a → g'.Φ a) (hk : ∀ a o, g.Φ a → h.get? a = some o → h'.get? a = some o) {v : PV} {x : Value} : VR prog w g h v x → VR prog w g' h' v x := (VR.mono3 hp hs hk).1
theorem VRs.mono (hp : g.μ <+: g'.μ) (hs : ∀ a, g.Φ a → g'.Φ a) (hk : ∀ a o, g.Φ a → h.get? a = some o → h'.get? a = some o) {l : List PV} {r : List Value} : VRs prog w g h l r → VRs prog w g' h' l r := (VR.mono3 hp hs hk).2.1
theorem VRd.mono (hp : g.μ <+: g'.μ) (hs : ∀ a, g.Φ a → g'.Φ a) (hk : ∀ a o, g.Φ a → h.get? a = some o → h'.get? a = some o) {l : List (Str × PV)} {r : List (Str × Value)} : VRd prog w g h l r → VRd prog w g' h' l r := (VR.mono3 hp hs hk).2.2

theorem isList_of {h : Heap} {a : Addr} {vs : Array Value} (x : IsListX h a vs) : h.IsList a vs := let ⟨n, e⟩ := x; ⟨_, e, rfl, n, rfl⟩
theorem isTuple_of {h : Heap} {a : Addr} {vs : Array Value} (x : IsTupX h a vs) : h.IsTuple a vs := let ⟨n, e⟩ := x; ⟨_, e, rfl, n, rfl⟩

theorem VR.lens : (∀ {v x}, VR prog w g h v x → True) ∧ (∀ {l r}, VRs prog w g h l r → l.length = r.length) ∧ ∀ {l r}, VRd prog w g h l r → l.length = r.length ∧ r.map (·.1) = l.map (·.1) :=
  VR.ind trivial (fun _ => trivial) (fun _ _ => trivial) (fun _ _ => trivial) (fun _ _ _ _ _ _ _ => trivial) (fun _ _ _ _ _ _ _ => trivial) (fun _ _ _ _ _ _ _ _ => trivial) (fun _ _ _ _ _ => trivial) (fun _ _ _ => trivial)
    rfl (fun _ _ _ _ _ _ _ q => congrArg Nat.succ q) ⟨rfl, rfl⟩ (fun _ _ _ _ _ _ _ _ q => ⟨congrArg Nat.succ q.1, congrArg (List.cons _) q.2⟩)
theorem VRs.length {l : List PV} {r : List Value} (q : VRs prog w g h l r) : l.length = r.length := VR.lens.2.1 q
theorem VRd.length {l : List (Str × PV)} {r : List (Str × Value)} (q : VRd prog w g h l r) : l.length = r.length := (VR.lens.2.2 q).1
theorem VRs.get {l : List PV} {r : List Value} (hv : VRs prog w g h l r) : ∀ {i : Nat} {v : PV}, l[i]? = some v → ∃ x, r[i]? = some x ∧ VR prog w g h v x := by
  induction l generalizing r with
  | nil => intro i v e; simp at e
  | cons a l ih =>
    intro i v e
    cases hv with
    | cons ha hl =>
      cases i with
      | zero => simp only [List.getElem?_cons_zero, Option.some.injEq] at e; subst e; exact ⟨_, rfl, ha⟩
      | succ i => simp only [List.getElem?_cons_succ] at e ⊢; exact ih hl e
theorem VRs.setAt {l : List PV} {r : List Value} {v : PV} {x : Value} (hv : VRs prog w g h l r) (j : Nat) (hx : VR prog w g h v x) : VRs prog w g h (l.set j v) (r.set j x) := by
  induction l generalizing r j with
  | nil => cases hv; exact .nil
  | cons a l ih =>
    cases hv with
    | cons h1 h2 =>
      cases j with
      | zero => exact .cons hx h2
      | succ j => exact .cons h1 (ih h2 j)
theorem VRs.append {l₁ l₂ : List PV} {r₁ r₂ : List Value} (h₁ : VRs prog w g h l₁ r₁) (h₂ : VRs prog w g h l₂ r₂) : VRs prog w g h (l₁ ++ l₂) (r₁ ++ r₂) := by
  induction l₁ generalizing r₁ with
  | nil => cases h₁; exact h₂
  | cons a l ih => cases h₁ with | cons ha hl => exact .cons ha (ih hl)
theorem VRs.take {l : List PV} {r : List Value} (hv : VRs prog w g h l r) (n : Nat) : VRs prog w g h (l.take n) (r.take n) := by
  induction n generalizing l r with
  | zero => simpa using VRs.nil
  | succ n ih => cases hv with
    | nil => simpa using VRs.nil
    | cons a b => simpa using VRs.cons a (ih b)
theorem VRs.drop {l : List PV} {r : List Value} (hv : VRs prog w g h l r) (n : Nat) : VRs prog w g h (l.drop n) (r.drop n) := by
  induction n generalizing l r with
  | zero => simpa using hv
  | succ n ih => cases hv with
    | nil => simpa using VRs.nil
    | cons a b => simpa using ih b
theorem VRd.keys {l : List (Str × PV)} {r : List (Str × Value)} (q : VRd prog w g h l r) : r.map (·.1) = l.map (·.1) := (VR.lens.2.2 q).2
theorem VRd.get {l : List (Str × PV)} {r : List (Str × Value)} (hv : VRd prog w g h l r) (k : Str) : match dget l k with
    | some v => ∃ x, valueAt r k = some x ∧ VR prog w g h v x
    | none => valueAt r k = none := by
  induction l generalizing r with
  | nil => cases hv; simp [dget, valueAt]
  | cons p l ih =>
    cases hv with
    | @cons k' v x _ r ha hl =>
      have := ih hl
      by_cases hk : k' = k
      · subst hk; simpa [dget, valueAt] using ha
      · simpa [dget, valueAt, List.find?_cons, hk] using this
theorem VRd.has {l : List (Str × PV)} {r : List (Str × Value)} (hv : VRd prog w g h l r) (k : Str) : (r.any fun kv => kv.1 = k) = dhas l k := by
  induction l generalizing r with
  | nil => cases hv; rfl
  | cons p l ih => cases hv with | cons _ hl => simp only [List.any_cons, dhas]; rw [ih hl]; rfl
theorem VRd.del {l : List (Str × PV)} {r : List (Str × Value)} (hv : VRd prog w g h l r) {k : Str} : VRd prog w g h (ddel l k) (without r k) := by
  induction l generalizing r with
  | nil => cases hv; exact .nil
  | cons p l ih =>
    cases hv with
    | @cons k' v x _ r ha hl =>
      by_cases hk : k' = k
      · rw [show ddel ((k', v) :: l) k = ddel l k by simp [ddel, hk], show without ((k', x) :: r) k = without r k by simp [without, hk]]; exact ih hl
      · rw [show ddel ((k', v) :: l) k = (k', v) :: ddel l k by simp [ddel, hk], show without ((k', x) :: r) k = (k', x) :: without r k by simp [without, hk]]; exact .cons ha (ih hl)
theorem VRd.put {l : List (Str × PV)} {r : List (Str × Value)} (hv : VRd prog w g h l r) {k : Str} {v : PV} {x : Value} (hx : VR prog w g h v x) : VRd prog w g h (dput l k v) (stored r k x) := by
  have hh := hv.has k
  unfold dput stored
  rw [hh]
  show VRd prog w g h (if dhas l k = true then _ else _) (if dhas l k = true then _ else _)
  have h1 : VRd prog w g h (l.map fun kv => if kv.1 = k then (kv.1, v) else kv) (r.map fun kv => if kv.1 = k then (kv.1, x) else kv) := by
    clear hh
    induction l generalizing r with
    | nil => cases hv; exact .nil
    | cons p l ih =>
      cases hv with
      | @cons k' _ _ _ _ ha hl =>
        simp only [List.map_cons]
        by_cases hk : k' = k
        · simp only [hk, if_true]; exact .cons hx (ih hl)
        · simp only [hk, if_false]; exact .cons ha (ih hl)
  have h2 : VRd prog w g h (l ++ [(k, v)]) (r ++ [(k, x)]) := by
    clear hh h1
    induction l generalizing r with
    | nil => cases hv; exact .cons hx .nil
    | cons p l ih => cases hv with | cons ha hl => exact .cons ha (ih hl)
  split
  · exact h1
  · exact h2
end

end Mine

set_option autoImplicit false
set_option backward.match.sparseCases true
namespace Mine
open PySem

structure Fix where
  prog : Program
  w : World
  B : Heap
  mg : Str → Option Value
  mb : Str → Option Value
  fs : List Env
  exc : Str → Option Addr

noncomputable abbrev Fix.VR (C : Fix) (g : Cfg) (h : Heap) := Mine.VR C.prog C.w g h
noncomputable abbrev Fix.VRs (C : Fix) (g : Cfg) (h : Heap) := Mine.VRs C.prog C.w g h
noncomputable abbrev Fix.VRd (C : Fix) (g : Cfg) (h : Heap) := Mine.VRd C.prog C.w g h
noncomputable abbrev Fix.OR (C : Fix) (g : Cfg) (h : Heap) := Mine.OR C.prog C.w g h

structure Fix.Rel (C : Fix) (σ : AH) (g : Cfg) (h : Heap) : Prop where
  rel : Mine.Rel C.prog C.w g h C.B σ
  bas : ∀ b, (C.B.get? b).isSome = true → g.Φ b
  sys : (C.B.get? sysModules).isSome = true

variable {C : Fix} {σ : AH} {g g' : Cfg} {h h' : Heap} {s s' : Shared} {own : Addr → Prop}

noncomputable def Off (own : Addr → Prop) (g : Cfg) : Prop := ∀ b, own b → b ∉ g.μ ∧ ¬ g.Φ b
theorem Off.none : Off noOwn g := fun _ h => h.elim

theorem Fix.Rel.fresh (R : C.Rel σ g h) {a : Addr} (ha : h.get? a = none) : a ∉ g.μ ∧ ¬ g.Φ a := by
  refine ⟨fun hm => ?_, fun hf => ?_⟩
  · obtain ⟨i, hi⟩ := List.getElem?_of_mem hm
    have hlt : i < σ.length := R.rel.len ▸ (List.getElem?_eq_some_iff.mp hi).1
    have ho := R.rel.objs i σ[i] a (by simp [hlt]) hi
    cases hx : σ[i] with
    | list b l => rw [hx] at ho; obtain ⟨_, vs, ⟨n, e⟩, _⟩ := ho; rw [ha] at e; cases e
    | dict b l => rw [hx] at ho; obtain ⟨_, kvs, ⟨o, es, ep, e, _⟩, _⟩ := ho; rw [ha] at e; cases e
  · have := R.rel.live a hf; rw [ha] at this; cases this
theorem Fix.Rel.base_none (R : C.Rel σ g h) {a : Addr} (ha : ¬ g.Φ a) : C.B.get? a = none := by
  cases hq : C.B.get? a with
  | none => rfl
  | some o => exact absurd (R.bas a (isSome_of hq)) ha

theorem Fix.Rel.notSys (R : C.Rel σ g h) {a : Addr} (ha : ¬ g.Φ a) : a ≠ sysModules := fun e => ha (e ▸ R.bas _ R.sys)

theorem Fix.Rel.new (R : C.Rel σ g s.heap) : s.heap.objs.size ∉ g.μ ∧ ¬ g.Φ s.heap.objs.size := R.fresh (by
  cases hq : s.heap.get? s.heap.objs.size with
  | none => rfl
  | some o => exact absurd (Heap.lt_size hq) (Nat.lt_irrefl _))

theorem get?_size (h : Heap) : h.get? h.objs.size = none := by
  cases hq : h.get? h.objs.size with
  | none => rfl
  | some o => exact absurd (Heap.lt_size hq) (Nat.lt_irrefl _)

noncomputable def Kept (g : Cfg) (h h' : Heap) : Prop := ∀ b o, h.get? b = some o → (b ∈ g.μ ∨ g.Φ b) → h'.get? b = some o
theorem Kept.of_all (hk : ∀ b o, h.get? b = some o → h'.get? b = some o) : Kept g h h' := fun b o e _ => hk b o e
theorem Kept.of_but {a : Addr} (hk : ∀ b o, b ≠ a → h.get? b = some o → h'.get? b = some o) (ha : a ∉ g.μ ∧ ¬ g.Φ a) : Kept g h h' := fun b o e hb => hk b o (fun q => by subst q; exact hb.elim ha.1 ha.2) e

theorem VR_kept (hk : Kept g h h') {v : PV} {x : Value} (hv : C.VR g h v x) : C.VR g h' v x := hv.mono (List.prefix_refl _) (fun _ q => q) fun a o ha e => hk a o e (.inr ha)
theorem VRs_kept (hk : Kept g h h') {v : List PV} {x : List Value} (hv : C.VRs g h v x) : C.VRs g h' v x := hv.mono (List.prefix_refl _) (fun _ q => q) fun a o ha e => hk a o e (.inr ha)
theorem VRd_kept (hk : Kept g h h') {v : List (Str × PV)} {x : List (Str × Value)} (hv : C.VRd g h v x) : C.VRd g h' v x := hv.mono (List.prefix_refl _) (fun _ q => q) fun a o ha e => hk a o e (.inr ha)

theorem OR_kept (hk : Kept g h h') {o : AObj} {a : Addr} (ha : a ∈ g.μ) (ho : C.OR g h o a) : C.OR g h' o a := by
  cases o with
  | list b l => obtain ⟨hb, vs, ⟨n, e⟩, hv⟩ := ho; exact ⟨hb, vs, ⟨n, hk _ _ e (.inl ha)⟩, VRs_kept (C := C) hk hv⟩
  | dict b l => obtain ⟨hb, kvs, ⟨ob, es, ep, e, r⟩, hv⟩ := ho; exact ⟨hb, kvs, ⟨ob, es, ep, hk _ _ e (.inl ha), r⟩, VRd_kept (C := C) hk hv⟩

theorem Fix.Rel.kept (R : C.Rel σ g h) (hk : Kept g h h') : C.Rel σ g h' where
  rel :=
    { len := R.rel.len, nodup := R.rel.nodup, disj := R.rel.disj, lkμ := R.rel.lkμ
      live := fun a ha => by
        obtain ⟨o, ho⟩ := Option.isSome_iff_exists.mp (R.rel.live a ha)
        rw [hk a o ho (.inr ha)]; rfl
      base := fun b o e => hk b o (R.rel.base b o e) (.inr (R.bas b (isSome_of e)))
      baseμ := R.rel.baseμ
      objs := fun i o a h1 h2 => OR_kept (C := C) hk (List.mem_of_getElem? h2) (R.rel.objs i o a h1 h2) }
  bas := R.bas
  sys := R.sys

noncomputable def Cfg.frz (g : Cfg) (a : Addr) : Cfg := ⟨g.μ, fun b => g.Φ b ∨ b = a, g.lk⟩
noncomputable def Cfg.trk (g : Cfg) (a : Addr) : Cfg := ⟨g.μ ++ [a], g.Φ, g.lk⟩

theorem frz_sub {a : Addr} : ∀ b, g.Φ b → (g.frz a).Φ b := fun _ q => Or.inl q
theorem frz_pre {a : Addr} : g.μ <+: (g.frz a).μ := List.prefix_refl _
theorem trk_pre {a : Addr} : g.μ <+: (g.trk a).μ := List.prefix_append ..
theorem trk_sub {a : Addr} : ∀ b, g.Φ b → (g.trk a).Φ b := fun _ q => q
theorem VRs_frz {a : Addr} {v : List PV} {x : List Value} (hv : C.VRs g h v x) : C.VRs (g.frz a) h v x := hv.mono frz_pre frz_sub fun _ _ _ e => e
theorem VRd_frz {a : Addr} {v : List (Str × PV)} {x : List (Str × Value)} (hv : C.VRd g h v x) : C.VRd (g.frz a) h v x := hv.mono frz_pre frz_sub fun _ _ _ e => e
theorem OR_mono (hp : g.μ <+: g'.μ) (hs : ∀ a, g.Φ a → g'.Φ a) (hlk : g'.lk = g.lk) {o : AObj} {a : Addr} (ho : C.OR g h o a) : C.OR g' h o a := by
  cases o with
  | list b l => obtain ⟨hb, vs, e, hv⟩ := ho; exact ⟨hlk ▸ hb, vs, e, hv.mono hp hs fun _ _ _ e => e⟩
  | dict b l => obtain ⟨hb, kvs, e, hv⟩ := ho; exact ⟨hlk ▸ hb, kvs, e, hv.mono hp hs fun _ _ _ e => e⟩

theorem Fix.Rel.frz (R : C.Rel σ g h) {a : Addr} (hn : a ∉ g.μ) (hl : (h.get? a).isSome = true) : C.Rel σ (g.frz a) h where
  rel :=
    { len := R.rel.len, nodup := R.rel.nodup, lkμ := R.rel.lkμ
      disj := fun b hb q => q.elim (R.rel.disj b hb) fun e => hn (e ▸ hb)
      live := fun b hb => hb.elim (R.rel.live b) fun e => e ▸ hl
      base := R.rel.base
      baseμ := R.rel.baseμ
      objs := fun i o b h1 h2 => OR_mono (C := C) frz_pre frz_sub rfl (R.rel.objs i o b h1 h2) }
  bas := fun b hb => .inl (R.bas b hb)
  sys := R.sys

theorem Fix.Rel.trk (R : C.Rel σ g h) {a : Addr} {o : AObj} (hn : a ∉ g.μ) (hf : ¬ g.Φ a) (ho : C.OR g h o a) : C.Rel (σ ++ [o]) (g.trk a) h where
  rel :=
    { len := by simp [Cfg.trk, R.rel.len]
      lkμ := fun b hb => List.mem_append_left _ (R.rel.lkμ b hb)
      nodup := by
        show (g.μ ++ [a]).Nodup
        rw [List.nodup_append]
        exact ⟨R.rel.nodup, by simp, fun b hb c hc => by rw [List.mem_singleton.mp hc]; rintro rfl; exact hn hb⟩
      disj := fun b hb => (List.mem_append.mp hb).elim (R.rel.disj b) fun q => (List.mem_singleton.mp q) ▸ hf
      live := R.rel.live
      base := R.rel.base
      baseμ := fun b hb => (List.mem_append.mp hb).elim (R.rel.baseμ b) fun q => (List.mem_singleton.mp q) ▸ R.base_none hf
      objs := fun i o' b h1 h2 => by
        have hlen := R.rel.len
        by_cases hi : i < σ.length
        · have h1' : σ[i]? = some o' := by rwa [List.getElem?_append_left hi] at h1
          have h2' : g.μ[i]? = some b := by
            have : (g.μ ++ [a])[i]? = some b := h2
            rwa [List.getElem?_append_left (by exact ar7 hlen hi)] at this
          exact OR_mono (C := C) trk_pre trk_sub rfl (R.rel.objs i o' b h1' h2')
        · have hlt := (List.getElem?_eq_some_iff.mp h1).1
          have hi' : i = σ.length := by simp at hlt; exact ar6 hi hlt
          subst hi'
          have e1 : o' = o := by simpa using h1.symm
          have e2 : b = a := by
            have : (g.μ ++ [a])[σ.length]? = some b := h2
            rw [← hlen] at this; simpa using this.symm
          rw [e1, e2]
          exact OR_mono (C := C) trk_pre trk_sub rfl ho }
  bas := R.bas
  sys := R.sys

theorem Fix.Rel.set (R : C.Rel σ g h) {i : Nat} {a : Addr} {o : AObj} (hi : g.μ[i]? = some a) (hk : ∀ b ob, b ≠ a → h.get? b = some ob → h'.get? b = some ob) (ho : C.OR g h' o a) : C.Rel (σ.set i o) g h' := by
  have ham : a ∈ g.μ := List.mem_of_getElem? hi
  have hfa : ¬ g.Φ a := R.rel.disj a ham
  have kΦ : ∀ b ob, g.Φ b → h.get? b = some ob → h'.get? b = some ob := fun b ob hb e => hk b ob (fun q => hfa (q ▸ hb)) e
  refine ⟨{ len := by rw [List.length_set]; exact R.rel.len, nodup := R.rel.nodup, disj := R.rel.disj, lkμ := R.rel.lkμ, live := fun b hb => ?_, base := fun b ob e => kΦ b ob (R.bas b (isSome_of e)) (R.rel.base b ob e), baseμ := R.rel.baseμ, objs := fun j o' b h1 h2 => ?_ }, R.bas, R.sys⟩
  · obtain ⟨ob, e⟩ := Option.isSome_iff_exists.mp (R.rel.live b hb)
    rw [kΦ b ob hb e]; rfl
  · by_cases hj : j = i
    · subst hj
      rw [hi] at h2; cases h2
      have hlt : j < σ.length := R.rel.len ▸ (List.getElem?_eq_some_iff.mp hi).1
      rw [List.getElem?_set_self hlt] at h1
      cases h1; exact ho
    · rw [List.getElem?_set_ne (Ne.symm hj)] at h1
      have hba : b ≠ a := fun q => hj (by
        subst q
        have l1 := (List.getElem?_eq_some_iff.mp h2).1
        have l2 := (List.getElem?_eq_some_iff.mp hi).1
        exact (List.getElem?_inj l1 R.rel.nodup).mp (h2.trans hi.symm))
      have old := R.rel.objs j o' b h1 h2
      cases o' with
      | list b l => obtain ⟨hb, vs, ⟨n, e⟩, hv⟩ := old; exact ⟨hb, vs, ⟨n, hk _ _ hba e⟩, hv.mono (List.prefix_refl _) (fun _ q => q) fun c oc hc e => kΦ c oc hc e⟩
      | dict b l => obtain ⟨hb, kvs, ⟨ob, es, ep, e, r⟩, hv⟩ := old; exact ⟨hb, kvs, ⟨ob, es, ep, hk _ _ hba e, r⟩, hv.mono (List.prefix_refl _) (fun _ q => q) fun c oc hc e => kΦ c oc hc e⟩

theorem VR_ext (R : C.Rel σ g s.heap) (e : Ext own g s g' s') (hoff : Off own g) {v : PV} {x : Value} (hv : C.VR g s.heap v x) : C.VR g' s'.heap v x :=
  hv.mono e.pre e.sub fun a o ha ho => e.keepF a o ho (.inl ⟨fun q => R.rel.disj a q ha, ha⟩) fun q => (hoff a q).2 ha
theorem VRs_ext (R : C.Rel σ g s.heap) (e : Ext own g s g' s') (hoff : Off own g) {v : List PV} {x : List Value} (hv : C.VRs g s.heap v x) : C.VRs g' s'.heap v x :=
  hv.mono e.pre e.sub fun a o ha ho => e.keepF a o ho (.inl ⟨fun q => R.rel.disj a q ha, ha⟩) fun q => (hoff a q).2 ha

noncomputable def VRi (C : Fix) (g : Cfg) (h : Heap) : PV → Value → Prop
  | .none, x => x = .none
  | .bool b, x => x = .bool b
  | .int i, x => ∃ t, x = .int i t
  | .str y, x => ∃ t, x = .str y t
  | .tup l, x => ∃ a vs, x = .ref a ∧ IsTupX h a vs ∧ C.VRs g h l vs.toList
  | .lst l, x => ∃ a vs, x = .ref a ∧ IsListX h a vs ∧ C.VRs g h l vs.toList
  | .dct l, x => ∃ a kvs, x = .ref a ∧ a ≠ sysModules ∧ h.DictOf (strKind C.prog C.w) a kvs ∧ C.VRd g h l kvs
  | .rng lo hi, x => ∃ a, x = .ref a ∧ IsRng h a lo hi
  | .ref i, x => ∃ a, x = .ref a ∧ g.μ[i]? = some a
  | .undef, _ => True
theorem VR_inv {v : PV} {x : Value} (hv : C.VR g h v x) : VRi C g h v x := by
  cases hv with
  | none => exact rfl
  | bool => exact rfl
  | int i t => exact ⟨t, rfl⟩
  | str y t => exact ⟨t, rfl⟩
  | tup _ b c => exact ⟨_, _, rfl, b, c⟩
  | lst _ b c => exact ⟨_, _, rfl, b, c⟩
  | dct _ b c d => exact ⟨_, _, rfl, b, c, d⟩
  | rng _ b => exact ⟨_, rfl, b⟩
  | ref b => exact ⟨_, rfl, b⟩
theorem deref_sound (R : C.Rel σ g h) {v : PV} {x : Value} (hv : C.VR g h v x) : VRi C g h (deref σ v) x := by
  cases v with
  | ref i =>
    obtain ⟨a, rfl, hi⟩ := VR_inv hv
    show VRi C g h (derefO σ[i]?) _
    cases ho : σ[i]? with
    | none => trivial
    | some o =>
      have hor := R.rel.objs i o a ho hi
      cases o with
      | list b l => obtain ⟨_, vs, h1, h2⟩ := hor; exact ⟨a, vs, rfl, h1, h2⟩
      | dict b l => obtain ⟨_, kvs, h1, h2⟩ := hor; exact ⟨a, kvs, rfl, R.notSys (R.rel.disj a (List.mem_of_getElem? hi)), h1, h2⟩
  | _ => exact VR_inv hv
theorem intOf_eq {w : PV} {i : Int} (h : intOf w = some i) : w = .int i := by cases w <;> first | exact congrArg PV.int (Option.some.inj h) | exact nomatch h
theorem strOf_eq {w : PV} {i : Str} (h : strOf w = some i) : w = .str i := by cases w <;> first | exact congrArg PV.str (Option.some.inj h) | exact nomatch h
theorem lstOf_eq {w : PV} {i : List PV} (h : lstOf w = some i) : w = .lst i := by cases w <;> first | exact congrArg PV.lst (Option.some.inj h) | exact nomatch h
theorem boolOf_eq {w : PV} {i : Bool} (h : boolOf w = some i) : w = .bool i := by cases w <;> first | exact congrArg PV.bool (Option.some.inj h) | exact nomatch h
theorem dctOf_eq {w : PV} {i : List (Str × PV)} (h : dctOf w = some i) : w = .dct i := by cases w <;> first | exact congrArg PV.dct (Option.some.inj h) | exact nomatch h
theorem refOf_eq {w : PV} {i : Nat} (h : refOf w = some i) : w = .ref i := by cases w <;> first | exact congrArg PV.ref (Option.some.inj h) | exact nomatch h
theorem seqOf_eq {w : PV} {i : List PV} (h : seqOf w = some i) : w = .tup i ∨ w = .lst i := by cases w <;> first | exact .inl (congrArg PV.tup (Option.some.inj h)) | exact .inr (congrArg PV.lst (Option.some.inj h)) | exact nomatch h
theorem int_vr {v : PV} {x : Value} {i : Int} (e : intOf v = some i) (hv : C.VR g h v x) : ∃ t, x = .int i t := by rw [intOf_eq e] at hv; exact VR_inv hv
theorem str_vr {v : PV} {x : Value} {i : Str} (e : strOf v = some i) (hv : C.VR g h v x) : ∃ t, x = .str i t := by rw [strOf_eq e] at hv; exact VR_inv hv
theorem two_elim {α β γ : Type} {f : PV → Option α} {g : PV → Option β} {a b : PV} {h : α → β → Option γ} {k : Option γ} (P : Option γ → Prop) (hp : P (both f g a b h k)) : (∃ x y, f a = some x ∧ g b = some y ∧ P (h x y)) ∨ P k := by
  unfold both at hp
  cases h1 : f a with
  | none => rw [h1] at hp; exact .inr hp
  | some x =>
    cases h2 : g b with
    | none => rw [h1, h2] at hp; exact .inr hp
    | some y => rw [h1, h2] at hp; exact .inl ⟨x, y, rfl, rfl, hp⟩
theorem bind_elim {α γ : Type} {o : Option α} {f : α → Option γ} (P : Option γ → Prop) (hn : ¬ P none) (hp : P (o.bind f)) : ∃ x, o = some x ∧ P (f x) := by
  cases o with
  | none => exact absurd hp hn
  | some x => exact ⟨x, rfl, hp⟩

theorem Ext.heap {tk : Nat} {dr : Drawn} (hk : ∀ b o, s.heap.get? b = some o → (b ∉ g.μ ∨ g.lk b) → ¬ own b → h'.get? b = some o) (hl : ∀ b, (s.heap.get? b).isSome = true → (h'.get? b).isSome = true) :
    Ext own g s g { s with heap := h', drawn := dr, toks := tk } :=
  ⟨List.prefix_refl _, fun _ q => q, fun _ q => .inl q, fun _ q => .inl q, rfl, fun b o e h1 h2 => ⟨o, hk b o e (.inl h1) h2, .inl rfl⟩, fun b o e h1 h2 => hk b o e (h1.imp And.left id) h2, hl, rfl, rfl⟩
theorem Ext.all {tk : Nat} {dr : Drawn} (hk : ∀ b o, s.heap.get? b = some o → h'.get? b = some o) : Ext own g s g { s with heap := h', drawn := dr, toks := tk } :=
  .heap (fun b o e _ _ => hk b o e) fun b hb => by obtain ⟨o, ho⟩ := Option.isSome_iff_exists.mp hb; rw [hk b o ho]; rfl
theorem Ext.frz {a : Addr} (e : Ext own g s g' s') (ha : s.heap.get? a = none) : Ext own g s (g'.frz a) s' :=
  { e with sub := fun b hb => .inl (e.sub b hb), newΦ := fun b hb => hb.elim (e.newΦ b) fun q => .inr (q ▸ ha) }
theorem Ext.trk {a : Addr} (e : Ext own g s g' s') (ha : s.heap.get? a = none) : Ext own g s (g'.trk a) s' :=
  { e with
    pre := e.pre.trans (List.prefix_append ..)
    newμ := fun b hb => (List.mem_append.mp hb).elim (e.newμ b) fun q => .inr ((List.mem_singleton.mp q) ▸ ha) }

end Mine

set_option autoImplicit false
set_option backward.match.sparseCases true
namespace Mine
open PySem PyProof.Rows

structure AOK (C : Fix) (A : Around) (d : Nat) : Prop where
  hand : A.handled = none
  depth : A.depth + 2 * d < 890
  units : A.units + 12 * d + 700 < cLine
  fr : ∃ env l, A.frames = some (env :: l) ∧ env.scope.isGenerator = false ∧ env.scope.isCoroutine = false ∧ env.builtins = builtinsNs ∧ env.globals = mainGlobals
  fs : A.frames = some C.fs
  fk : ∀ e ∈ C.fs, e.scope.kind ≠ .module ∧ ∃ L, e.frame = some L

structure Fix.OK (C : Fix) : Prop where
  g : C.B.Ns mainGlobals C.mg
  b : C.B.Ns builtinsNs C.mb
  nolimit : C.B.NoLimit
  nodigits : ∃ mc, C.B.Ns cStatics mc ∧ mc "sys.int_max_str_digits" = none
  builtins : ∀ x : Str, x ≠ "__name__" → C.mb x = bootBuiltins x
  seer : C.B.NoSeer
  tree : C.prog.given.tree = none

variable {C : Fix} {σ : AH} {g g' : Cfg} {h h' : Heap} {s s' : Shared} {own : Addr → Prop} {A : Around} {d : Nat}
  {Q : Value → Shared → Prop} {E : Value → Shared → Prop}

noncomputable def FrsR (C : Fix) (g : Cfg) (h : Heap) : Frs → Addr → Prop
  | .list l, a => ∃ vs, IsListX h a vs ∧ C.VRs g h l vs.toList
  | .dict l, a => ∃ kvs, h.DictOf (strKind C.prog C.w) a kvs ∧ C.VRd g h l kvs

noncomputable def OutR (C : Fix) (s : Shared) (g' : Cfg) (s' : Shared) : Out → Value → Prop
  | .v v, x => C.VR g' s'.heap v x
  | .f f, x => ∃ a, x = .ref a ∧ s.heap.get? a = none ∧ a ∉ g'.μ ∧ ¬ g'.Φ a ∧ FrsR C g' s'.heap f a

noncomputable def PostO (C : Fix) (σ : AH) (g : Cfg) (s : Shared) (o : Option Out) (Q : Value → Shared → Prop) : Prop := match o with
  | none => False
  | some o => ∀ g' s' x, Ext noOwn g s g' s' → C.Rel σ g' s'.heap → OutR C s g' s' o x → Q x s'

theorem FrsR.ob {f : Frs} {a : Addr} (hlk : ¬ g.lk a) (h : FrsR C g s.heap f a) : C.OR g s.heap f.obj a := by
  cases f <;> exact ⟨⟨fun q => (by cases q), fun q => (hlk q).elim⟩, h⟩
theorem FrsR.live {f : Frs} {a : Addr} (h : FrsR C g s.heap f a) : (s.heap.get? a).isSome = true := by
  cases f with
  | list l => obtain ⟨vs, ⟨n, e⟩, _⟩ := h; exact isSome_of e
  | dict l => obtain ⟨kvs, ⟨o, es, ep, e, _⟩, _⟩ := h; exact isSome_of e
theorem FrsR.vr {f : Frs} {a : Addr} (hm : a ≠ sysModules) (h : FrsR C g s.heap f a) : C.VR (g.frz a) s.heap f.val (.ref a) := by
  cases f with
  | list l => obtain ⟨vs, e, hv⟩ := h; exact .lst (.inr rfl) e (VRs_frz (C := C) hv)
  | dict l => obtain ⟨kvs, e, hv⟩ := h; exact .dct (.inr rfl) hm e (VRd_frz (C := C) hv)

theorem PostO.val {v : PV} (hp : PostO C σ g s (some (.v v)) Q) (R : C.Rel σ g s.heap) {x : Value} {tk : Nat} (hv : C.VR g s.heap v x) : Q x { s with toks := tk } :=
  hp g _ x (Ext.toks (Ext.refl g s)) R hv
theorem PostO.push {v : PV} (hp : PostO C σ g s (some (.v v)) Q) (R : C.Rel σ g s.heap) {o : Obj} {tk : Nat}
    (hv : C.VR (g.frz s.heap.objs.size) (s.heap.push o) v (.ref s.heap.objs.size)) (ho : o.isFreed = false := by rfl) : Q (.ref s.heap.objs.size) { s with heap := s.heap.push o, toks := tk } := by
  have hk : ∀ b ob, s.heap.get? b = some ob → (s.heap.push o).get? b = some ob := fun b ob e => Heap.get?_push_of_some o e
  refine hp (g.frz s.heap.objs.size) _ _ ((Ext.all hk).frz (get?_size _)) ((R.kept (.of_all hk)).frz R.new.1 ?_) hv
  show ((s.heap.push o).get? s.heap.objs.size).isSome = true
  rw [Heap.get?_push_size _ ho]; rfl
theorem PostO.made {f : Frs} (hp : PostO C σ g s (some (.f f)) Q) (R : C.Rel σ g s.heap) {o : Obj} {tk : Nat} (hr : FrsR C g (s.heap.push o) f s.heap.objs.size) : Q (.ref s.heap.objs.size) { s with heap := s.heap.push o, toks := tk } := by
  have hk : ∀ b ob, s.heap.get? b = some ob → (s.heap.push o).get? b = some ob := fun b ob e => Heap.get?_push_of_some o e
  exact hp g _ _ (Ext.all hk) (R.kept (.of_all hk)) ⟨_, rfl, get?_size _, R.new.1, R.new.2, hr⟩

theorem asList_sound (R : C.Rel σ g h) {v : PV} {l : List PV} {x : Value} (hl : asList σ v = some l) (hv : C.VR g h v x) : ∃ a vs, x = .ref a ∧ h.IsList a vs ∧ C.VRs g h l vs.toList := by
  have hd := deref_sound R hv
  rw [lstOf_eq hl] at hd
  obtain ⟨a, vs, e, h1, h2⟩ := hd
  exact ⟨a, vs, e, isList_of h1, h2⟩

theorem mulStr_sound {x : Str} {n : Int} {t u : Tok} (h1 : n ≤ 1000) (h2 : -1000 ≤ n) (h3 : x.length ≤ 1000) (hq : ∀ t' tk, Q (.str (repStr x n) t') { s with toks := tk }) :
    wpAny (model C.prog C.w) A (binaryOp .Mult (.str x t) (.int n u)) Q E s := by
  refine P.mul_str ?_ (fun h4 _ => ?_) (fun h4 _ => ?_) ?_
  · rw [decide_eq_false (by lia), decide_eq_false (by lia)]; rfl
  · intro h5
    have : (2 ^ 63 - 1 : Int) / n ≥ (2 ^ 63 - 1) / 1000 := by
      apply Int.le_ediv_of_mul_le (by exact om228 h4)
      have : (2 ^ 63 - 1 : Int) / 1000 * n ≤ (2 ^ 63 - 1) / 1000 * 1000 := Int.mul_le_mul_of_nonneg_left h1 (by decide)
      exact om227 this
    lia
  · have hm : x.length * n.toNat ≤ 1000 * 1000 := Nat.mul_le_mul h3 (by exact om223 h1)
    simp only [Builtin.Str.tooLong, decide_eq_false_iff_not, sizeLine_eq]
    exact om225 hm
  · by_cases h4 : n < 1
    · rw [if_pos h4]
      have e : repStr x n = Str.empty := by
        have : n.toNat = 0 := by exact om224 h4
        simp [repStr, this, Str.empty]
      exact ⟨by decide, by rw [← e]; exact hq _ _⟩
    · rw [if_neg h4]
      by_cases h5 : (n == 1 || x.length == 0) = true
      · rw [if_pos h5]
        have e : repStr x n = x := by
          rcases Bool.or_eq_true_iff.mp h5 with h6 | h6
          · have : n = 1 := by simpa using h6
            subst this; simp [repStr]
          · have h7 : x.cps = #[] := Array.eq_empty_of_size_eq_zero (by simpa [Str.length] using h6)
            have h8 : ∀ k : Nat, (List.replicate k x.cps).foldl (· ++ ·) #[] = (#[] : Array Nat) := by
              intro k
              induction k with
              | zero => rfl
              | succ k ih => rw [List.replicate_succ, List.foldl_cons, h7] at *; simpa using ih
            cases x; simp only at h7; subst h7; simp only [repStr, h8]
        have := hq t s.toks
        rw [e] at this
        exact this
      · rw [if_neg h5]
        refine ⟨?_, hq _ _⟩
        have h6 : ∀ k : Nat, ((List.replicate k x.cps).foldl (· ++ ·) #[]).size = k * x.cps.size := by
          intro k
          have h7 : ∀ (k : Nat) (a : Array Nat), ((List.replicate k x.cps).foldl (· ++ ·) a).size = a.size + k * x.cps.size := by
            intro k
            induction k with
            | zero => intro a; simp
            | succ k ih => intro a; rw [List.replicate_succ, List.foldl_cons, ih, Array.size_append, Nat.succ_mul]; exact om40
          simpa using h7 k #[]
        show ((List.replicate n.toNat x.cps).foldl (· ++ ·) #[]).size ≤ sizeLine
        rw [h6, sizeLine_eq]
        have hm : n.toNat * x.cps.size ≤ 1000 * 1000 := Nat.mul_le_mul (by exact om223 h1) h3
        exact om222 hm

theorem pylong_room (K : C.OK) (R : C.Rel σ g s.heap) (hA : AOK C A d) : PylongRoom (model C.prog C.w) A s := by
  obtain ⟨env, l, h1, h2, h3, h4, h5⟩ := hA.fr
  refine PylongRoom.of (K.nolimit.keeps R.rel.base) ?_ (SeerAt.of (K.seer.keeps R.rel.base) K.tree h1 h2 h3 h4 h5)
  have := hA.depth
  show A.depth + 100 < 1000
  exact om221 this

theorem VRs.size {C : Fix} {g : Cfg} {h : Heap} {l : List PV} {vs : Array Value} (hv : C.VRs g h l vs.toList) : vs.size = l.length := by
  rw [VRs.length hv]; simp

theorem listObj_frs {l : List PV} {vs : Array Value} {n : Nat} (R : C.Rel σ g s.heap) (hv : C.VRs g s.heap l vs.toList) :
    FrsR C g (s.heap.push { cls := .type "list", data := .seq vs n }) (.list l) s.heap.objs.size :=
  ⟨vs, ⟨n, Heap.get?_push_size _ rfl⟩, VRs_kept (C := C) (.of_all fun b o e => Heap.get?_push_of_some _ e) hv⟩
theorem tupObj_vr {l : List PV} {vs : Array Value} {n : Nat} (hv : C.VRs g s.heap l vs.toList) :
    C.VR (g.frz s.heap.objs.size) (s.heap.push { cls := .type "tuple", data := .seq vs n }) (.tup l) (.ref s.heap.objs.size) :=
  .tup (.inr rfl) ⟨n, Heap.get?_push_size _ rfl⟩ (VRs_frz (C := C) (VRs_kept (C := C) (.of_all fun b o e => Heap.get?_push_of_some _ e) hv))

theorem addList_sound {a b : Addr} {vs ws : Array Value} (hl : s.heap.IsList a vs) (hb : s.heap.IsList b ws) (hsz : vs.size + ws.size ≤ 1000000)
    (hq : ∀ tk, Q (.ref s.heap.objs.size) { s with heap := s.heap.push { cls := .type "list", data := .seq (vs ++ ws) }, toks := tk }) :
    wpAny (model C.prog C.w) A (binaryOp .Add (.ref a) (.ref b)) Q E s := by
  obtain ⟨⟨cls, dd, data, sl⟩, ho, hc, n, hd⟩ := id hl
  obtain ⟨⟨cls2, dd2, data2, sl2⟩, ho2, hc2, n2, hd2⟩ := id hb
  simp only at hc hd hc2 hd2
  subst hc hd hc2 hd2
  exact concat_meets ⟨_, ho, rfl⟩ ⟨_, ho2, rfl⟩ noFill_list_add seq_list_add PySem.F.slot_list_add PySem.F.entry_list_add (PySem.F.args_list_add_2 _ _)
    (list_addW a b vs ws n n2 dd dd2 sl sl2 (by rw [sizeLine_eq]; exact om220 hsz)) ⟨ho, ho2, hq _⟩

theorem tupOf_eq {v : PV} {l : List PV} (h : tupOf v = some l) : v = .tup l := by
  cases v <;> first | (cases h; rfl) | cases h
theorem addTup_sound (R : C.Rel σ g s.heap) {l r : List PV} {x y : Value} (hx : C.VR g s.heap (.tup l) x) (hy : C.VR g s.heap (.tup r) y) (hsz : l.length + r.length ≤ 1000000) (hp : PostO C σ g s (some (.v (.tup (l ++ r)))) Q) :
    wpAny (model C.prog C.w) A (binaryOp .Add x y) Q E s := by
  obtain ⟨p, vs, rfl, ⟨n, h1⟩, h2⟩ := VR_inv hx
  obtain ⟨q, ws, rfl, ⟨n2, k1⟩, k2⟩ := VR_inv hy
  by_cases hv : vs.isEmpty = true
  · refine concat_meets ⟨_, h1, rfl⟩ ⟨_, k1, rfl⟩ noFill_tuple_add seq_tuple_add PySem.F.slot_tuple_add PySem.F.entry_tuple_add (PySem.F.args_tuple_add_2 _ _)
      (tuple_addW0 p q vs ws n n2 none none #[] #[] hv) ⟨h1, k1, ?_⟩
    have hl : l = [] := List.length_eq_zero_iff.mp (by rw [← h2.size]; simpa using hv)
    subst hl
    exact hp.val (tk := s.toks) R hy
  · by_cases hw : ws.isEmpty = true
    · refine concat_meets ⟨_, h1, rfl⟩ ⟨_, k1, rfl⟩ noFill_tuple_add seq_tuple_add PySem.F.slot_tuple_add PySem.F.entry_tuple_add (PySem.F.args_tuple_add_2 _ _)
        (tuple_addW1 p q vs ws n n2 none none #[] #[] hv hw) ⟨h1, k1, ?_⟩
      have hl : r = [] := List.length_eq_zero_iff.mp (by rw [← k2.size]; simpa using hw)
      subst hl
      rw [List.append_nil] at hp
      exact hp.val (tk := s.toks) R hx
    · refine concat_meets ⟨_, h1, rfl⟩ ⟨_, k1, rfl⟩ noFill_tuple_add seq_tuple_add PySem.F.slot_tuple_add PySem.F.entry_tuple_add (PySem.F.args_tuple_add_2 _ _)
        (tuple_addW2 p q vs ws n n2 none none #[] #[] hv hw (by rw [h2.size, k2.size, sizeLine_eq]; exact om220 hsz)) ⟨h1, k1, ?_⟩
      refine hp.push (tk := s.toks) R (tupObj_vr ?_)
      rw [Array.toList_append]; exact h2.append k2

theorem PostO.both {α β : Type} {f : PV → Option α} {f' : PV → Option β} {a b : PV} {k : α → β → Option Out} {o : Option Out} (hp : PostO C σ g s (both f f' a b k o) Q) : (∃ x y, f a = some x ∧ f' b = some y ∧ PostO C σ g s (k x y) Q) ∨ PostO C σ g s o Q := two_elim (fun o => PostO C σ g s o Q) hp
theorem PostO.bind {α : Type} {o : Option α} {f : α → Option Out} (hp : PostO C σ g s (o.bind f) Q) : ∃ x, o = some x ∧ PostO C σ g s (f x) Q := bind_elim (fun o => PostO C σ g s o Q) id hp
theorem PostO.ite {p : Prop} {_ : Decidable p} {o : Out} (hp : PostO C σ g s (if p then some o else none) Q) : p ∧ PostO C σ g s (some o) Q := by
  split at hp
  · exact ⟨‹_›, hp⟩
  · exact hp.elim
theorem PostO.ite' {p : Prop} {_ : Decidable p} {o : Out} (hp : PostO C σ g s (if p then none else some o) Q) : ¬ p ∧ PostO C σ g s (some o) Q := by
  split at hp
  · exact hp.elim
  · exact ⟨‹_›, hp⟩
theorem ints_vr {a b : PV} {x y : Value} {i j : Int} (hx : C.VR g h a x) (hy : C.VR g h b y) (e1 : intOf a = some i) (e2 : intOf b = some j) : ∃ t u, x = .int i t ∧ y = .int j u :=
  let ⟨t, q1⟩ := int_vr e1 hx; let ⟨u, q2⟩ := int_vr e2 hy; ⟨t, u, q1, q2⟩
theorem strs_vr {a b : PV} {x y : Value} {i j : Str} (hx : C.VR g h a x) (hy : C.VR g h b y) (e1 : strOf a = some i) (e2 : strOf b = some j) : ∃ t u, x = .str i t ∧ y = .str j u :=
  let ⟨t, q1⟩ := str_vr e1 hx; let ⟨u, q2⟩ := str_vr e2 hy; ⟨t, u, q1, q2⟩
theorem binop_sound (K : C.OK) (hA : AOK C A d) (R : C.Rel σ g s.heap) {op : Operator} {a b : PV} {x y : Value} (hx : C.VR g s.heap a x) (hy : C.VR g s.heap b y) (hp : PostO C σ g s (binop σ op a b) Q) :
    wpAny (model C.prog C.w) A (binaryOp op x y) Q E s := by
  cases op with
  | Add =>
    rcases hp.both with ⟨i, j, e1, e2, hp⟩ | hp
    · obtain ⟨t, u, rfl, rfl⟩ := ints_vr hx hy e1 e2
      exact wpAny_add_int (hp.val R (.int ..))
    · rcases hp.both with ⟨i, j, e1, e2, hp⟩ | hp
      · obtain ⟨t, u, rfl, rfl⟩ := strs_vr hx hy e1 e2
        have hp := hp.ite
        exact add_str (fun t' tk => hp.2.val R (.str ..)) (Nat.le_trans hp.1 (by decide))
      · rcases hp.both with ⟨l, r, e1, e2, hp⟩ | hp
        · obtain ⟨p, vs, rfl, h1, h2⟩ := asList_sound R e1 hx
          obtain ⟨q, ws, rfl, k1, k2⟩ := asList_sound R e2 hy
          have hp := hp.ite
          refine addList_sound h1 k1 (by rw [h2.size, k2.size]; exact hp.1) fun tk => hp.2.made R (listObj_frs R ?_)
          rw [Array.toList_append]; exact h2.append k2
        · rcases hp.both with ⟨l, r, e1, e2, hp⟩ | hp
          · have hp := hp.ite
            exact addTup_sound R (tupOf_eq e1 ▸ hx) (tupOf_eq e2 ▸ hy) hp.1 hp.2
          · exact hp.elim
  | Sub =>
    rcases hp.both with ⟨i, j, e1, e2, hp⟩ | hp
    · obtain ⟨t, u, rfl, rfl⟩ := ints_vr hx hy e1 e2
      exact sub_int (hp.val R (.int ..))
    · exact hp.elim
  | Mult =>
    rcases hp.both with ⟨i, j, e1, e2, hp⟩ | hp
    · obtain ⟨t, u, rfl, rfl⟩ := ints_vr hx hy e1 e2
      have hp := hp.ite
      exact PyProof.Rows.mul_int (hp.2.val R (.int ..)) hp.1
    · rcases hp.both with ⟨i, j, e1, e2, hp⟩ | hp
      · obtain ⟨t, rfl⟩ := str_vr e1 hx
        obtain ⟨u, rfl⟩ := int_vr e2 hy
        have hp := hp.ite
        exact mulStr_sound hp.1.1 hp.1.2.1 hp.1.2.2 fun t' tk => hp.2.val R (.str ..)
      · exact hp.elim
  | FloorDiv =>
    rcases hp.both with ⟨i, j, e1, e2, hp⟩ | hp
    · obtain ⟨t, u, rfl, rfl⟩ := ints_vr hx hy e1 e2
      have hp := hp.ite'
      exact PyProof.Rows.floordiv_int hp.1 (hp.2.val R (.int ..)) (.inr (pylong_room K R hA))
    · exact hp.elim
  | Mod =>
    rcases hp.both with ⟨i, j, e1, e2, hp⟩ | hp
    · obtain ⟨t, u, rfl, rfl⟩ := ints_vr hx hy e1 e2
      have hp := hp.ite'
      exact mod_int' hp.1 (hp.2.val R (.int ..))
    · exact hp.elim
  | Pow =>
    rcases hp.both with ⟨i, j, e1, e2, hp⟩ | hp
    · obtain ⟨t, u, rfl, rfl⟩ := ints_vr hx hy e1 e2
      have hp := hp.ite
      exact pow_int_small hp.1.1 hp.1.2.1 hp.1.2.2 (hp.2.val R (.int ..))
    · exact hp.elim
  | _ => exact hp.elim

end Mine

set_option autoImplicit false
set_option backward.match.sparseCases true
namespace Mine
open PySem PyProof.Rows PySem.SeqAt

variable {C : Fix} {σ : AH} {g g' : Cfg} {h h' : Heap} {s s' : Shared} {own : Addr → Prop} {A : Around} {d : Nat}
  {Q : Value → Shared → Prop} {E : Value → Shared → Prop}

noncomputable abbrev pairPV (l r : List PV) (j : Nat) : Bool := pvEq (l.getD j .none) (r.getD j .none)

theorem pvEqs_all : ∀ l r : List PV, ((List.range (min l.length r.length)).all (pairPV l r) && l.length == r.length) = pvEqs l r
  | [], [] => rfl
  | [], _ :: _ => rfl
  | _ :: _, [] => rfl
  | x :: xs, y :: ys => by
    have ih := pvEqs_all xs ys
    have e1 : min (x :: xs).length (y :: ys).length = min xs.length ys.length + 1 := Nat.succ_min_succ ..
    have e3 : (List.range (min xs.length ys.length + 1)).all (pairPV (x :: xs) (y :: ys)) = (pvEq x y && (List.range (min xs.length ys.length)).all (pairPV xs ys)) := by
      rw [List.range_succ_eq_map, List.all_cons, List.all_map]
      first | rfl | simp [pairPV, Function.comp_def]
    rw [e1, e3, show pvEqs (x :: xs) (y :: ys) = (pvEq x y && pvEqs xs ys) from rfl, ← ih, Bool.and_assoc]
    simp

theorem isTuple_inj {h : Heap} {a : Addr} {vs ws : Array Value} (x : h.IsTuple a vs) (y : h.IsTuple a ws) : vs = ws := by
  obtain ⟨o, ho, _, n, hd⟩ := x
  obtain ⟨o', ho', _, n', hd'⟩ := y
  rw [ho] at ho'; cases ho'; rw [hd] at hd'; cases hd'; rfl

theorem VRs.at {l : List PV} {xs : List Value} (hv : C.VRs g h l xs) {j : Nat} {x : Value} (hx : xs[j]? = some x) : ∃ v, l[j]? = some v ∧ C.VR g h v x := by
  have hlt : j < l.length := by rw [VRs.length hv]; exact (List.getElem?_eq_some_iff.mp hx).1
  have e : l[j]? = some l[j] := List.getElem?_eq_getElem hlt
  obtain ⟨y, h1, h2⟩ := hv.get e
  rw [hx] at h1
  cases h1
  exact ⟨_, e, h2⟩
theorem pure_cases {v : PV} (h : pureV v = true) : v = .none ∨ (∃ b, v = .bool b) ∨ (∃ i, v = .int i) ∨ (∃ x, v = .str x) ∨ (∃ l, v = .tup l ∧ pureVs l = true) ∨ ∃ l, v = .lst l ∧ pureVs l = true := by
  cases v with
  | none => exact .inl rfl
  | bool b => exact .inr (.inl ⟨b, rfl⟩)
  | int i => exact .inr (.inr (.inl ⟨i, rfl⟩))
  | str x => exact .inr (.inr (.inr (.inl ⟨x, rfl⟩)))
  | tup l => exact .inr (.inr (.inr (.inr (.inl ⟨l, rfl, h⟩))))
  | lst l => exact .inr (.inr (.inr (.inr (.inr ⟨l, rfl, h⟩))))
  | _ => cases h
theorem deeps_mem {l : List PV} {v : PV} (h : v ∈ l) : deep v ≤ deeps l := by
  induction l with
  | nil => cases h
  | cons a l ih =>
    show _ ≤ max (deep a) (deeps l)
    rcases List.mem_cons.mp h with rfl | h
    · exact Nat.le_max_left ..
    · exact Nat.le_trans (ih h) (Nat.le_max_right ..)

theorem rc_of {a b : PV} {x y : Value} (hx : C.VR g s.heap a x) (hy : C.VR g s.heap b y) (pa : pureV a = true) (pb : pureV b = true) (hu : A.units < cLine)
    (he : ∀ {l r : List PV} {vs ws : Array Value}, (a = .tup l ∧ b = .tup r) ∨ (a = .lst l ∧ b = .lst r) → C.VRs g s.heap l vs.toList → C.VRs g s.heap r ws.toList → ∀ j (h1 : j < vs.size) (h2 : j < ws.size), EqAt A.in1 s vs[j] ws[j] (pairPV l r j)) :
    RcAt A s x y (pvEq a b) ∧ RcNeAt A s x y (!pvEq a b) := by
  rcases pure_cases pa with rfl | ⟨v, rfl⟩ | ⟨v, rfl⟩ | ⟨v, rfl⟩ | ⟨l, rfl, _⟩ | ⟨l, rfl, _⟩
  · clear he
    obtain rfl := VR_inv hx
    rcases pure_cases pb with rfl | ⟨u, rfl⟩ | ⟨u, rfl⟩ | ⟨u, rfl⟩ | ⟨r, rfl, _⟩ | ⟨r, rfl, _⟩
    · obtain rfl := VR_inv hy; exact ⟨RcAt.none_none, RcNeAt.none_none⟩
    · obtain rfl := VR_inv hy; exact ⟨RcAt.none_bool _, RcNeAt.none_bool _⟩
    · obtain ⟨thy, rfl⟩ := VR_inv hy; exact ⟨RcAt.none_int _ _, RcNeAt.none_int _ _⟩
    · obtain ⟨thy, rfl⟩ := VR_inv hy; exact ⟨RcAt.none_str _ _, RcNeAt.none_str _ _⟩
    · obtain ⟨ahy, vshy, rfl, lhy, rhy⟩ := VR_inv hy; exact ⟨RcAt.none_tuple (isTuple_of lhy) hu, RcNeAt.none_tuple (isTuple_of lhy) hu⟩
    · obtain ⟨ahy, vshy, rfl, lhy, rhy⟩ := VR_inv hy; exact ⟨RcAt.none_list (isList_of lhy) hu, RcNeAt.none_list (isList_of lhy) hu⟩
  · clear he
    obtain rfl := VR_inv hx
    rcases pure_cases pb with rfl | ⟨u, rfl⟩ | ⟨u, rfl⟩ | ⟨u, rfl⟩ | ⟨r, rfl, _⟩ | ⟨r, rfl, _⟩
    · obtain rfl := VR_inv hy; exact ⟨RcAt.bool_none _, RcNeAt.bool_none _⟩
    · obtain rfl := VR_inv hy; exact ⟨RcAt.bool_bool _ _, RcNeAt.bool_bool _ _⟩
    · obtain ⟨thy, rfl⟩ := VR_inv hy; rw [show pvEq (.bool v) (.int u) = ((if v = true then 1 else 0) == u) from Bool.or_false _]; exact ⟨RcAt.bool_int _ _ _, RcNeAt.bool_int _ _ _⟩
    · obtain ⟨thy, rfl⟩ := VR_inv hy; exact ⟨RcAt.bool_str _ _ _, RcNeAt.bool_str _ _ _⟩
    · obtain ⟨ahy, vshy, rfl, lhy, rhy⟩ := VR_inv hy; exact ⟨RcAt.bool_tuple _ (isTuple_of lhy) hu, RcNeAt.bool_tuple _ (isTuple_of lhy) hu⟩
    · obtain ⟨ahy, vshy, rfl, lhy, rhy⟩ := VR_inv hy; exact ⟨RcAt.bool_list _ (isList_of lhy) hu, RcNeAt.bool_list _ (isList_of lhy) hu⟩
  · clear he
    obtain ⟨thx, rfl⟩ := VR_inv hx
    rcases pure_cases pb with rfl | ⟨u, rfl⟩ | ⟨u, rfl⟩ | ⟨u, rfl⟩ | ⟨r, rfl, _⟩ | ⟨r, rfl, _⟩
    · obtain rfl := VR_inv hy; exact ⟨RcAt.int_none _ _, RcNeAt.int_none _ _⟩
    · obtain rfl := VR_inv hy; rw [show pvEq (.int v) (.bool u) = (v == if u = true then 1 else 0) from Bool.or_false _]; exact ⟨RcAt.int_bool _ _ _, RcNeAt.int_bool _ _ _⟩
    · obtain ⟨thy, rfl⟩ := VR_inv hy; exact ⟨RcAt.int_int _ _ _ _, RcNeAt.int_int _ _ _ _⟩
    · obtain ⟨thy, rfl⟩ := VR_inv hy; exact ⟨RcAt.int_str _ _ _ _, RcNeAt.int_str _ _ _ _⟩
    · obtain ⟨ahy, vshy, rfl, lhy, rhy⟩ := VR_inv hy; exact ⟨RcAt.int_tuple _ _ (isTuple_of lhy) hu, RcNeAt.int_tuple _ _ (isTuple_of lhy) hu⟩
    · obtain ⟨ahy, vshy, rfl, lhy, rhy⟩ := VR_inv hy; exact ⟨RcAt.int_list _ _ (isList_of lhy) hu, RcNeAt.int_list _ _ (isList_of lhy) hu⟩
  · clear he
    obtain ⟨thx, rfl⟩ := VR_inv hx
    rcases pure_cases pb with rfl | ⟨u, rfl⟩ | ⟨u, rfl⟩ | ⟨u, rfl⟩ | ⟨r, rfl, _⟩ | ⟨r, rfl, _⟩
    · obtain rfl := VR_inv hy; exact ⟨RcAt.str_none _ _, RcNeAt.str_none _ _⟩
    · obtain rfl := VR_inv hy; exact ⟨RcAt.str_bool _ _ _, RcNeAt.str_bool _ _ _⟩
    · obtain ⟨thy, rfl⟩ := VR_inv hy; exact ⟨RcAt.str_int _ _ _ _, RcNeAt.str_int _ _ _ _⟩
    · obtain ⟨thy, rfl⟩ := VR_inv hy; exact ⟨RcAt.str_str _ _ _ _, RcNeAt.str_str _ _ _ _⟩
    · obtain ⟨ahy, vshy, rfl, lhy, rhy⟩ := VR_inv hy; exact ⟨RcAt.str_tuple _ _ (isTuple_of lhy) hu, RcNeAt.str_tuple _ _ (isTuple_of lhy) hu⟩
    · obtain ⟨ahy, vshy, rfl, lhy, rhy⟩ := VR_inv hy; exact ⟨RcAt.str_list _ _ (isList_of lhy) hu, RcNeAt.str_list _ _ (isList_of lhy) hu⟩
  · obtain ⟨ahx, vshx, rfl, lhx, rhx⟩ := VR_inv hx
    rcases pure_cases pb with rfl | ⟨u, rfl⟩ | ⟨u, rfl⟩ | ⟨u, rfl⟩ | ⟨r, rfl, _⟩ | ⟨r, rfl, _⟩
    · clear he; obtain rfl := VR_inv hy; exact ⟨RcAt.tuple_none (isTuple_of lhx) hu, RcNeAt.tuple_none (isTuple_of lhx) hu⟩
    · clear he; obtain rfl := VR_inv hy; exact ⟨RcAt.tuple_bool _ (isTuple_of lhx) hu, RcNeAt.tuple_bool _ (isTuple_of lhx) hu⟩
    · clear he; obtain ⟨thy, rfl⟩ := VR_inv hy; exact ⟨RcAt.tuple_int _ _ (isTuple_of lhx) hu, RcNeAt.tuple_int _ _ (isTuple_of lhx) hu⟩
    · clear he; obtain ⟨thy, rfl⟩ := VR_inv hy; exact ⟨RcAt.tuple_str _ _ (isTuple_of lhx) hu, RcNeAt.tuple_str _ _ (isTuple_of lhx) hu⟩
    · obtain ⟨ahy, vshy, rfl, lhy, rhy⟩ := VR_inv hy
      rw [show pvEq (.tup l) (.tup r) = pvEqs l r from rfl, ← pvEqs_all, ← rhx.size, ← rhy.size]
      exact ⟨RcAt.tuples (isTuple_of lhx) (isTuple_of lhy) hu (he (.inl ⟨rfl, rfl⟩) rhx rhy), RcNeAt.tuples (isTuple_of lhx) (isTuple_of lhy) hu (he (.inl ⟨rfl, rfl⟩) rhx rhy)⟩
    · clear he; obtain ⟨ahy, vshy, rfl, lhy, rhy⟩ := VR_inv hy; exact ⟨RcAt.tuple_list (isTuple_of lhx) (isList_of lhy) hu, RcNeAt.tuple_list (isTuple_of lhx) (isList_of lhy) hu⟩
  · obtain ⟨ahx, vshx, rfl, lhx, rhx⟩ := VR_inv hx
    rcases pure_cases pb with rfl | ⟨u, rfl⟩ | ⟨u, rfl⟩ | ⟨u, rfl⟩ | ⟨r, rfl, _⟩ | ⟨r, rfl, _⟩
    · clear he; obtain rfl := VR_inv hy; exact ⟨RcAt.list_none (isList_of lhx) hu, RcNeAt.list_none (isList_of lhx) hu⟩
    · clear he; obtain rfl := VR_inv hy; exact ⟨RcAt.list_bool _ (isList_of lhx) hu, RcNeAt.list_bool _ (isList_of lhx) hu⟩
    · clear he; obtain ⟨thy, rfl⟩ := VR_inv hy; exact ⟨RcAt.list_int _ _ (isList_of lhx) hu, RcNeAt.list_int _ _ (isList_of lhx) hu⟩
    · clear he; obtain ⟨thy, rfl⟩ := VR_inv hy; exact ⟨RcAt.list_str _ _ (isList_of lhx) hu, RcNeAt.list_str _ _ (isList_of lhx) hu⟩
    · clear he; obtain ⟨ahy, vshy, rfl, lhy, rhy⟩ := VR_inv hy; exact ⟨RcAt.list_tuple (isList_of lhx) (isTuple_of lhy) hu, RcNeAt.list_tuple (isList_of lhx) (isTuple_of lhy) hu⟩
    · obtain ⟨ahy, vshy, rfl, lhy, rhy⟩ := VR_inv hy
      rw [show pvEq (.lst l) (.lst r) = pvEqs l r from rfl, ← pvEqs_all, ← rhx.size, ← rhy.size]
      by_cases hsz : vshx.size = vshy.size
      · rw [← hsz, Nat.min_self, beq_self_eq_true, Bool.and_true]
        exact ⟨RcAt.lists (isList_of lhx) (isList_of lhy) hsz hu (he (.inr ⟨rfl, rfl⟩) rhx rhy), RcNeAt.lists (isList_of lhx) (isList_of lhy) hsz hu (he (.inr ⟨rfl, rfl⟩) rhx rhy)⟩
      · rw [beq_eq_false_iff_ne.mpr hsz, Bool.and_false]
        exact ⟨RcAt.lists_lengths (isList_of lhx) (isList_of lhy) (bne_iff_ne.mpr hsz) hu, RcNeAt.lists_lengths (isList_of lhx) (isList_of lhy) (bne_iff_ne.mpr hsz) hu⟩
theorem vr_nofloat {a : PV} {x : Value} (hx : C.VR g h a x) : ∀ b t, x ≠ .float b t := by cases hx <;> exact fun _ _ q => nomatch q
theorem eqAt_of_rc {x y : Value} {k : Bool} (hne : x ≠ y) (hf : ∀ b t, x ≠ .float b t) (h : RcAt A s x y k) : EqAt A s x y k := fun prog w E Q hq => by
  unfold eqBool
  refine wpAny_holding ?_
  refine wpAny_ite_split (fun hab => absurd (eq_of_beq hab) hne) (fun _ => ?_)
  cases x with
  | float b t => exact absurd rfl (hf b t)
  | _ => exact wpAny_bind (h prog w E _ (wpAny_truthy_bool hq))

theorem tup_not_list {a : Addr} {vs ws : Array Value} (h1 : IsTupX h a vs) (h2 : IsListX h a ws) : False := by
  obtain ⟨n, e⟩ := h1
  obtain ⟨m, e'⟩ := h2
  rw [e] at e'
  have := congrArg Obj.cls (Option.some.inj e')
  exact absurd (show Value.type "tuple" = .type "list" from this) (by decide)
theorem one3 : (∀ {v : PV} {x : Value}, C.VR g h v x → ∀ b, C.VR g h b x → pureV v = true → pureV b = true → pvEq v b = true) ∧
    (∀ {l : List PV} {xs : List Value}, C.VRs g h l xs → ∀ r, C.VRs g h r xs → pureVs l = true → pureVs r = true → pvEqs l r = true) ∧ (∀ {l : List (Str × PV)} {xs : List (Str × Value)}, C.VRd g h l xs → True) := by
  refine VR.ind (fun b hb _ pb => ?_) (fun i b hb _ pb => ?_) (fun i t b hb _ pb => ?_) (fun i t b hb _ pb => ?_) (fun l a vs _ hl _ ih b hb pl pb => ?_) (fun l a vs _ hl _ ih b hb pl pb => ?_) (fun _ _ _ _ _ _ _ _ b _ p => nomatch p) (fun _ _ _ _ _ b _ p => nomatch p) (fun _ _ _ b _ p => nomatch p)
    (fun r hr _ _ => ?_) (fun v x l r' _ _ i1 i2 r hr pl pr => ?_) trivial (fun _ _ _ _ _ _ _ _ _ => trivial)
  · rcases pure_cases pb with rfl | ⟨u, rfl⟩ | ⟨u, rfl⟩ | ⟨u, rfl⟩ | ⟨r, rfl, _⟩ | ⟨r, rfl, _⟩
    · rfl
    · exact nomatch (show Value.none = .bool u from VR_inv hb)
    · obtain ⟨_, e⟩ := VR_inv hb; exact nomatch e
    · obtain ⟨_, e⟩ := VR_inv hb; exact nomatch e
    · obtain ⟨_, _, e, _⟩ := VR_inv hb; exact nomatch e
    · obtain ⟨_, _, e, _⟩ := VR_inv hb; exact nomatch e
  · rcases pure_cases pb with rfl | ⟨u, rfl⟩ | ⟨u, rfl⟩ | ⟨u, rfl⟩ | ⟨r, rfl, _⟩ | ⟨r, rfl, _⟩
    · exact nomatch (show Value.bool i = .none from VR_inv hb)
    · cases (show Value.bool i = .bool u from VR_inv hb); exact beq_self_eq_true i
    · obtain ⟨_, e⟩ := VR_inv hb; exact nomatch e
    · obtain ⟨_, e⟩ := VR_inv hb; exact nomatch e
    · obtain ⟨_, _, e, _⟩ := VR_inv hb; exact nomatch e
    · obtain ⟨_, _, e, _⟩ := VR_inv hb; exact nomatch e
  · rcases pure_cases pb with rfl | ⟨u, rfl⟩ | ⟨u, rfl⟩ | ⟨u, rfl⟩ | ⟨r, rfl, _⟩ | ⟨r, rfl, _⟩
    · exact nomatch (show Value.int i t = .none from VR_inv hb)
    · exact nomatch (show Value.int i t = .bool u from VR_inv hb)
    · obtain ⟨_, e⟩ := VR_inv hb; cases e; exact beq_self_eq_true i
    · obtain ⟨_, e⟩ := VR_inv hb; exact nomatch e
    · obtain ⟨_, _, e, _⟩ := VR_inv hb; exact nomatch e
    · obtain ⟨_, _, e, _⟩ := VR_inv hb; exact nomatch e
  · rcases pure_cases pb with rfl | ⟨u, rfl⟩ | ⟨u, rfl⟩ | ⟨u, rfl⟩ | ⟨r, rfl, _⟩ | ⟨r, rfl, _⟩
    · exact nomatch (show Value.str i t = .none from VR_inv hb)
    · exact nomatch (show Value.str i t = .bool u from VR_inv hb)
    · obtain ⟨_, e⟩ := VR_inv hb; exact nomatch e
    · obtain ⟨_, e⟩ := VR_inv hb; cases e; exact beq_self_eq_true i
    · obtain ⟨_, _, e, _⟩ := VR_inv hb; exact nomatch e
    · obtain ⟨_, _, e, _⟩ := VR_inv hb; exact nomatch e
  · rcases pure_cases pb with rfl | ⟨u, rfl⟩ | ⟨u, rfl⟩ | ⟨u, rfl⟩ | ⟨r, rfl, pr⟩ | ⟨r, rfl, _⟩
    · exact nomatch (show Value.ref a = .none from VR_inv hb)
    · exact nomatch (show Value.ref a = .bool u from VR_inv hb)
    · obtain ⟨_, e⟩ := VR_inv hb; exact nomatch e
    · obtain ⟨_, e⟩ := VR_inv hb; exact nomatch e
    · obtain ⟨_, ws, e, k2, k3⟩ := VR_inv hb
      cases e
      have := isTuple_inj (isTuple_of hl) (isTuple_of k2)
      subst this
      exact ih r k3 pl pr
    · obtain ⟨_, ws, e, k2, k3⟩ := VR_inv hb
      cases e
      exact (tup_not_list hl k2).elim
  · rcases pure_cases pb with rfl | ⟨u, rfl⟩ | ⟨u, rfl⟩ | ⟨u, rfl⟩ | ⟨r, rfl, pr⟩ | ⟨r, rfl, pr⟩
    · exact nomatch (show Value.ref a = .none from VR_inv hb)
    · exact nomatch (show Value.ref a = .bool u from VR_inv hb)
    · obtain ⟨_, e⟩ := VR_inv hb; exact nomatch e
    · obtain ⟨_, e⟩ := VR_inv hb; exact nomatch e
    · obtain ⟨_, ws, e, k2, k3⟩ := VR_inv hb
      cases e
      exact (tup_not_list k2 hl).elim
    · obtain ⟨_, ws, e, ⟨n2, k2⟩, k3⟩ := VR_inv hb
      cases e
      obtain ⟨n1, hl⟩ := hl
      rw [hl] at k2
      cases k2
      exact ih r k3 pl pr
  · cases r with
    | nil => rfl
    | cons => exact nomatch VRs.length hr
  · cases r with
    | nil => exact nomatch VRs.length hr
    | cons y r =>
      cases hr with
      | cons k1 k2 =>
        have pl := Bool.and_eq_true_iff.mp pl
        have pr := Bool.and_eq_true_iff.mp pr
        exact Bool.and_eq_true_iff.mpr ⟨i1 y k1 pl.1 pr.1, i2 r k2 pl.2 pr.2⟩
theorem one_n {a b : PV} {x : Value} (ha : C.VR g h a x) (hb : C.VR g h b x) (pa : pureV a = true) (pb : pureV b = true) : pvEq a b = true := one3.1 ha b hb pa pb
theorem eqAt_n : ∀ (n : Nat) {a b : PV} {A : Around} {x y : Value}, deep a ≤ n → C.VR g s.heap a x → C.VR g s.heap b y → pureV a = true → pureV b = true → A.units + deep a < cLine →
    (RcAt A s x y (pvEq a b) ∧ RcNeAt A s x y (!pvEq a b)) ∧ EqAt A s x y (pvEq a b) := by
  intro n
  induction n with
  | zero =>
    intro a b A x y hd hx hy pa pb hu
    have r := rc_of hx hy pa pb (Nat.lt_of_le_of_lt (Nat.le_add_right _ _) hu) fun {l r vs ws} ea hl hr j h1 h2 => by rcases ea with ⟨ea, _⟩ | ⟨ea, _⟩ <;> (subst ea; exact absurd hd (Nat.not_succ_le_zero _))
    refine ⟨r, ?_⟩
    by_cases he : x = y
    · subst he; rw [one_n hx hy pa pb]; exact EqAt.same _
    · exact eqAt_of_rc he (vr_nofloat hx) r.1
  | succ n ih =>
    intro a b A x y hd hx hy pa pb hu
    have r := rc_of hx hy pa pb (Nat.lt_of_le_of_lt (Nat.le_add_right _ _) hu) fun {l r vs ws} ea hl hr j h1 h2 => by
      have hd' : deeps l ≤ n := by rcases ea with ⟨ea, _⟩ | ⟨ea, _⟩ <;> (subst ea; exact Nat.le_of_succ_le_succ hd)
      have hu' : A.units + (deeps l + 1) < cLine := by rcases ea with ⟨ea, _⟩ | ⟨ea, _⟩ <;> (subst ea; exact hu)
      have pl : pureVs l = true := by rcases ea with ⟨ea, _⟩ | ⟨ea, _⟩ <;> (subst ea; exact pa)
      have pr : pureVs r = true := by rcases ea with ⟨_, ea⟩ | ⟨_, ea⟩ <;> (subst ea; exact pb)
      obtain ⟨v, e1, w1⟩ := VRs.at hl (j := j) (x := vs[j]) (by simp [h1])
      obtain ⟨u, e2, w2⟩ := VRs.at hr (j := j) (x := ws[j]) (by simp [h2])
      have m1 := List.mem_of_getElem? e1
      have hdv := deeps_mem m1
      have := (ih (A := A.in1) (Nat.le_trans hdv hd') w1 w2 (pureVs_iff.mp pl v m1) (pureVs_iff.mp pr u (List.mem_of_getElem? e2)) (by show A.units + 1 + deep v < cLine; exact om231 hu' hdv)).2
      unfold pairPV
      rw [List.getD_eq_getElem?_getD, List.getD_eq_getElem?_getD, e1, e2]
      exact this
    refine ⟨r, ?_⟩
    by_cases he : x = y
    · subst he; rw [one_n hx hy pa pb]; exact EqAt.same _
    · exact eqAt_of_rc he (vr_nofloat hx) r.1
end Mine

set_option autoImplicit false
set_option backward.match.sparseCases true
namespace Mine
open PySem PyProof.Rows PySem.SeqAt

variable {C : Fix} {σ : AH} {g g' : Cfg} {h h' : Heap} {s s' : Shared} {own : Addr → Prop} {A : Around} {d : Nat}
  {Q : Value → Shared → Prop} {E : Value → Shared → Prop}

theorem plain_pure {v : PV} (h : plain v = true) : pureV v = true ∧ deep v ≤ 200 := let ⟨h1, h2⟩ := Bool.and_eq_true_iff.mp h; ⟨h1, of_decide_eq_true h2⟩
noncomputable def Cfg.all (g : Cfg) : Cfg := ⟨g.μ, fun _ => True, g.lk⟩
theorem vri_all {w : PV} {x : Value} (hd : VRi C g h w x) (hp : pureV w = true) : C.VR g.all h w x := by
  rcases pure_cases hp with rfl | ⟨b, rfl⟩ | ⟨i, rfl⟩ | ⟨y, rfl⟩ | ⟨l, rfl, _⟩ | ⟨l, rfl, _⟩
  · cases (show x = .none from hd); exact .none
  · cases (show x = .bool b from hd); exact .bool b
  · obtain ⟨t, rfl⟩ := hd; exact .int ..
  · obtain ⟨t, rfl⟩ := hd; exact .str ..
  · obtain ⟨a, vs, rfl, h1, h2⟩ := hd; exact .tup trivial h1 (VRs.mono (g' := g.all) (List.prefix_refl g.μ) (fun _ _ => trivial) (fun _ _ _ e => e) h2)
  · obtain ⟨a, vs, rfl, h1, h2⟩ := hd; exact .lst trivial h1 (VRs.mono (g' := g.all) (List.prefix_refl g.μ) (fun _ _ => trivial) (fun _ _ _ e => e) h2)
theorem hits_vr {m : List (Str × PV)} {kws : List (Str × Value)} (v2 : C.VRd g s.heap m kws) (p2 : plainD m = true) (hu : A.units + 200 < cLine) {l : List (Str × PV)} {kvs : List (Str × Value)} (v1 : C.VRd g s.heap l kvs) : plainD l = true →
    PySem.W.KeqHits A s kws kvs (l.all fun kv => (dget m kv.1).any (pvEq kv.2)) :=
  (VR.ind (P := fun _ _ => True) (Q := fun _ _ => True) (S := fun l kvs => plainD l = true → PySem.W.KeqHits A s kws kvs (l.all fun kv => (dget m kv.1).any (pvEq kv.2)))
    trivial (fun _ => trivial) (fun _ _ => trivial) (fun _ _ => trivial) (fun _ _ _ _ _ _ _ => trivial) (fun _ _ _ _ _ _ _ => trivial) (fun _ _ _ _ _ _ _ _ => trivial) (fun _ _ _ _ _ => trivial) (fun _ _ _ => trivial) trivial (fun _ _ _ _ _ _ _ _ => trivial)
    (fun _ => .nil) (fun k v x l r hx hr _ ih p => by
      have p := Bool.and_eq_true_iff.mp p
      have ih := ih p.2
      have hg := v2.get k
      show PySem.W.KeqHits A s kws ((k, x) :: r) ((dget m k).any (pvEq v) && _)
      cases hm : dget m k with
      | none => rw [hm] at hg; exact .miss hg
      | some v' =>
        rw [hm] at hg
        refine byC fun hZ => ?_
        obtain ⟨x', h2, h3⟩ := hg
        refine hZ ?_; clear hZ
        have q1 := plain_pure p.1
        have q2 := plain_pure (List.all_eq_true.mp p2 _ (mem_of_dget hm))
        exact .hit h2 (eqAt_n _ (Nat.le_refl _) hx h3 q1.1 q2.1 (Nat.lt_of_le_of_lt (Nat.add_le_add_left q1.2 _) hu)).2 ih)).2.2 v1
theorem rcDict {a b : Addr} {l m : List (Str × PV)} {kvs kws : List (Str × Value)} (hu : A.units + 201 < cLine) (ha : a ≠ sysModules) (hb : b ≠ sysModules) (h1 : s.heap.DictOf (strKind C.prog C.w) a kvs) (h2 : s.heap.DictOf (strKind C.prog C.w) b kws)
    (v1 : C.VRd g s.heap l kvs) (v2 : C.VRd g s.heap m kws) (p1 : plainD l = true) (p2 : plainD m = true) :
    (∀ Q E, Q (.bool (dctEq l m)) s → wpAny (model C.prog C.w) A (compareOp .Eq (.ref a) (.ref b)) Q E s) ∧
    (∀ Q E, Q (.bool (!dctEq l m)) s → wpAny (model C.prog C.w) A (compareOp .NotEq (.ref a) (.ref b)) Q E s) := by
  have hu0 : A.units < cLine := Nat.lt_of_le_of_lt (Nat.le_add_right _ _) hu
  have hu1 : A.in1.units + 200 < cLine := Nat.lt_of_le_of_lt (Nat.le_of_eq (Nat.add_assoc A.units 1 200)) hu
  have hh := hits_vr (A := A.in1) v2 p2 hu1 v1 p1
  have e : dctEq l m = (kvs.length == kws.length && l.all fun kv => (dget m kv.1).any (pvEq kv.2)) := by
    unfold dctEq; rw [v1.length, v2.length]
  refine ⟨fun Q E hq => ?_, fun Q E hq => ?_⟩
  · refine PySem.W.keq_eq (by simpa using ha) (by simpa using hb) h1 h2 hu0 (fun _ => hh) ?_
    rw [← e]; exact hq
  · refine PySem.W.keq_ne (by simpa using ha) (by simpa using hb) h1 h2 hu0 (fun _ => hh) ?_
    rw [← e]; exact hq
theorem pairs_one {es : List DictEntry} {kvs : List (Str × Value)} (h : Pairs (strKind C.prog C.w) es kvs) : ∀ {kws : List (Str × Value)}, Pairs (strKind C.prog C.w) es kws → kvs = kws := by
  induction h with
  | nil => intro kws h2; cases h2; rfl
  | @cons e kv es kvs h1 h2 _ ih =>
    intro kws h3
    cases h3 with
    | @cons _ kw _ kws k1 k2 k3 =>
      have q := KeyKind.is_eq_decide h1 kw.1
      rw [k1] at q
      have q : kw.1 = kv.1 := of_decide_eq_true q.symm
      rw [ih k3, Prod.ext q (k2.symm.trans h2)]
theorem one_d {a : Addr} {l m : List (Str × PV)} {kvs kws : List (Str × Value)} (h1 : h.DictOf (strKind C.prog C.w) a kvs) (h2 : h.DictOf (strKind C.prog C.w) a kws) (v1 : C.VRd g h l kvs) (v2 : C.VRd g h m kws) (p1 : plainD l = true) (p2 : plainD m = true) : dctEq l m = true := by
  obtain ⟨o, es, ep, q1, _, q3, _, q5, q6⟩ := h1
  obtain ⟨o', es', ep', r1, _, r3, _, r5, _⟩ := h2
  rw [q1] at r1; cases r1
  rw [q3] at r3; cases r3
  have e := pairs_one q5 r5
  subst e
  refine Bool.and_eq_true_iff.mpr ⟨beq_iff_eq.mpr (v1.length.trans v2.length.symm), List.all_eq_true.mpr fun kv hkv => ?_⟩
  have hg := dget_mem (by rw [← v1.keys]; exact q6) hkv
  have g1 := v1.get kv.1
  have g2 := v2.get kv.1
  rw [hg] at g1
  obtain ⟨x, x1, x2⟩ := g1
  cases hm : dget m kv.1 with
  | none => rw [hm] at g2; rw [g2] at x1; cases x1
  | some v' =>
    rw [hm] at g2
    obtain ⟨y, y1, y2⟩ := g2
    rw [x1] at y1; cases y1
    exact one_n x2 y2 (plain_pure (List.all_eq_true.mp p1 _ hkv)).1 (plain_pure (List.all_eq_true.mp p2 _ (mem_of_dget hm))).1
theorem some2 {α β : Type} {f : PV → Option α} {f' : PV → Option β} {a b : PV} {k : α → β → Option Bool} {o : Option Bool} {r : Bool} (hp : both f f' a b k o = some r) : (∃ x y, f a = some x ∧ f' b = some y ∧ k x y = some r) ∨ o = some r := two_elim (fun o => o = some r) hp
theorem eqBool_same {x : Value} {Q : Bool → Shared → Prop} (h : Q true s) : wpAny (model C.prog C.w) A (eqBool x x) Q E s := EqAt.same x C.prog C.w E Q h
theorem eqBool_ref {a : Addr} {y : Value} {r : Bool} {Q : Bool → Shared → Prop} (hne : Value.ref a ≠ y) (h : ∀ (Q : Value → Shared → Prop) E, Q (.bool r) s → wpAny (model C.prog C.w) A (compareOp .Eq (.ref a) y) Q E s) (hq : Q r s) : wpAny (model C.prog C.w) A (eqBool (.ref a) y) Q E s := by
  unfold eqBool
  refine wpAny_holding ?_
  refine wpAny_ite_split (fun hab => absurd (eq_of_beq hab) hne) (fun _ => ?_)
  exact wpAny_bind (h _ E (wpAny_truthy_bool hq))
theorem eqP_all (hu : A.units + 201 < cLine) (R : C.Rel σ g s.heap) {a b : PV} {x y : Value} {r : Bool} (hx : C.VR g s.heap a x) (hy : C.VR g s.heap b y) (he : eqP σ a b = some r) :
    ((∀ Q E, Q (.bool r) s → wpAny (model C.prog C.w) A (compareOp .Eq x y) Q E s) ∧
    (∀ Q E, Q (.bool (!r)) s → wpAny (model C.prog C.w) A (compareOp .NotEq x y) Q E s)) ∧ (∀ Q E, Q r s → wpAny (model C.prog C.w) A (eqBool x y) Q E s) := by
  rcases some2 he with ⟨l, m, h1, h2, he⟩ | he
  · split at he
    · rename_i hpp
      cases he
      have hx := deref_sound R hx
      have hy := deref_sound R hy
      rw [dctOf_eq h1] at hx
      rw [dctOf_eq h2] at hy
      refine byC fun hZ => ?_
      obtain ⟨a', kvs, rfl, a1, a2, a3⟩ := hx
      obtain ⟨b', kws, rfl, b1, b2, b3⟩ := hy
      obtain ⟨p1, p2⟩ := Bool.and_eq_true_iff.mp hpp
      refine hZ ?_; clear hZ
      have rc := rcDict hu a1 b1 a2 b2 a3 b3 p1 p2
      refine ⟨rc, fun Q E hq => ?_⟩
      by_cases e : a' = b'
      · subst e
        rw [one_d a2 b2 a3 b3 p1 p2] at hq
        exact eqBool_same hq
      · exact eqBool_ref (fun q => e (Value.ref.inj q)) rc.1 hq
    · cases he
  · unfold eqV at he
    split at he
    · rename_i hpp
      cases he
      have p1 := plain_pure (Bool.and_eq_true_iff.mp hpp).1
      have p2 := plain_pure (Bool.and_eq_true_iff.mp hpp).2
      obtain ⟨⟨e1, e2⟩, e3⟩ := eqAt_n (A := A) _ (Nat.le_refl _) (vri_all (deref_sound R hx) p1.1) (vri_all (deref_sound R hy) p2.1) p1.1 p2.1 (Nat.lt_of_le_of_lt (Nat.add_le_add_left (Nat.le_succ_of_le p1.2) _) hu)
      exact ⟨⟨fun Q E hq => e1 C.prog C.w E Q hq, fun Q E hq => e2 C.prog C.w E Q hq⟩, fun Q E hq => e3 C.prog C.w E Q hq⟩
    · cases he
theorem eqP_sound (hA : AOK C A d) (R : C.Rel σ g s.heap) {a b : PV} {x y : Value} {r : Bool} (hx : C.VR g s.heap a x) (hy : C.VR g s.heap b y) (he : eqP σ a b = some r) :
    (∀ Q E, (∀ tk, Q (.bool r) { s with toks := tk }) → wpAny (model C.prog C.w) A (compareOp .Eq x y) Q E s) ∧
    (∀ Q E, (∀ tk, Q (.bool (!r)) { s with toks := tk }) → wpAny (model C.prog C.w) A (compareOp .NotEq x y) Q E s) :=
  have hu := hA.units
  have h := (eqP_all (om235 hu) R hx hy he).1
  ⟨fun Q E hq => h.1 Q E (hq s.toks), fun Q E hq => h.2 Q E (hq s.toks)⟩
theorem tup_ne3 {l b : Addr} {x0 x1 x2 y0 y1 y2 : Value} {e0 e1 e2 : Bool} (hl : IsTupX s.heap l #[x0, x1, x2]) (hb : IsTupX s.heap b #[y0, y1, y2]) (hu : A.units < cLine)
    (h0 : ∀ Q E, Q e0 s → wpAny (model C.prog C.w) A.in1 (eqBool x0 y0) Q E s) (h1 : ∀ Q E, Q e1 s → wpAny (model C.prog C.w) A.in1 (eqBool x1 y1) Q E s) (h2 : ∀ Q E, Q e2 s → wpAny (model C.prog C.w) A.in1 (eqBool x2 y2) Q E s) (hq : Q (.bool (!(e0 && e1 && e2))) s) :
    wpAny (model C.prog C.w) A (compareOp .NotEq (.ref l) (.ref b)) Q E s := by
  obtain ⟨n, hl⟩ := hl
  obtain ⟨n2, hb⟩ := hb
  refine wpAny_richCompare_same_room (op := .NotEq) ⟨_, hl, rfl⟩ ⟨_, hb, rfl⟩ F.slot_tuple_ne (wpAny_call_entry F.slot_tuple_ne ⟨_, hl, rfl⟩ F.entry_tuple_ne ?_ (F.args_tuple_ne_2 _ _)) hu
  have f2 := AutoSeq1.sub_tuple_tuple
  obtain ⟨hp, gg, dd, tk, os⟩ := s
  wp_walk using AutoSeq1.wpAny_loadPart' hl, AutoSeq1.wpAny_loadPart' hb, wpAny_forIn_list _ (fun rest b s' => b.1 = none ∧ s' = ⟨hp, gg, dd, tk, os⟩ ∧ (rest = [(x0, y0), (x1, y1), (x2, y2)] ∨ e0 = true ∧ rest = [(x1, y1), (x2, y2)] ∨ (e0 && e1) = true ∧ rest = [(x2, y2)] ∨ (e0 && e1 && e2) = true ∧ rest = [])) _
  case turn =>
    rintro ⟨y, x⟩ rest b s' ⟨hb', rfl, hr⟩
    rcases hr with hr | ⟨k0, hr⟩ | ⟨k0, hr⟩ | ⟨_, hr⟩
    · cases hr
      refine wpAny_bind (h0 _ _ ?_)
      cases e0 with
      | true => wp_walk; exact ⟨rfl, rfl, .inr (.inl ⟨rfl, rfl⟩)⟩
      | false => wp_walk; exact ⟨_, rfl, (fun x => nomatch x), hq⟩
    · cases hr
      refine wpAny_bind (h1 _ _ ?_)
      subst k0
      cases e1 with
      | true => wp_walk; exact ⟨rfl, rfl, .inr (.inr (.inl ⟨rfl, rfl⟩))⟩
      | false => wp_walk; exact ⟨_, rfl, (fun x => nomatch x), hq⟩
    · cases hr
      refine wpAny_bind (h2 _ _ ?_)
      rw [k0] at hq ⊢
      cases e2 with
      | true => wp_walk; exact ⟨rfl, rfl, .inr (.inr (.inr ⟨rfl, rfl⟩))⟩
      | false => wp_walk; exact ⟨_, rfl, (fun x => nomatch x), hq⟩
    · cases hr
  case fin =>
    rintro ⟨b1, b2⟩ s' ⟨hb', rfl, hr⟩
    simp only at hb'
    subst hb'
    rcases hr with hr | ⟨_, hr⟩ | ⟨_, hr⟩ | ⟨k, _⟩
    · cases hr
    · cases hr
    · cases hr
    · rw [k] at hq
      wp_walk
      exact ⟨_, rfl, (fun x => nomatch x), hq⟩
  case h => exact ⟨rfl, rfl, .inl rfl⟩
theorem three_eq {α : Type} {l : List α} {p : α × α × α} (h : three l = some p) : l = [p.1, p.2.1, p.2.2] := by
  match l, h with
  | [_, _, _], rfl => rfl
theorem tupOf_eq3 {v : PV} {p : PV × PV × PV} (h : (tupOf v).bind three = some p) : v = .tup [p.1, p.2.1, p.2.2] := by
  cases v with
  | tup l => rw [three_eq (show three l = some p from h)]
  | _ => cases h
theorem triNe_sound (hA : AOK C A d) (R : C.Rel σ g s.heap) {a b : PV} {x y : Value} {r : Bool} (hx : C.VR g s.heap a x) (hy : C.VR g s.heap b y) (he : triNe σ a b = some r) (hq : Q (.bool r) s) : wpAny (model C.prog C.w) A (compareOp .NotEq x y) Q E s := by
  obtain ⟨p, h1, he⟩ := Option.bind_eq_some_iff.mp he
  obtain ⟨q, h2, he⟩ := Option.bind_eq_some_iff.mp he
  obtain ⟨r0, h3, he⟩ := Option.bind_eq_some_iff.mp he
  obtain ⟨r1, h4, he⟩ := Option.bind_eq_some_iff.mp he
  obtain ⟨r2, h5, rfl⟩ := Option.map_eq_some_iff.mp he
  have hx := deref_sound R hx
  have hy := deref_sound R hy
  rw [tupOf_eq3 h1] at hx
  rw [tupOf_eq3 h2] at hy
  obtain ⟨a', ⟨vs⟩, rfl, a1, a2⟩ := hx
  obtain ⟨b', ⟨ws⟩, rfl, b1, b2⟩ := hy
  rcases a2 with _ | ⟨u0, _ | ⟨u1, _ | ⟨u2, _ | _⟩⟩⟩
  rcases b2 with _ | ⟨t0, _ | ⟨t1, _ | ⟨t2, _ | _⟩⟩⟩
  have hu := hA.units
  have hu1 : A.in1.units + 201 < cLine := om237 hu
  exact tup_ne3 a1 b1 (om236 hu) (eqP_all hu1 R u0 t0 h3).2 (eqP_all hu1 R u1 t1 h4).2 (eqP_all hu1 R u2 t2 h5).2 hq

theorem cmp2_sound {a b : PV} {x y : Value} {r : Bool} {op : CmpOp} {f : Int → Int → Bool} {f' : Str → Str → Bool} (hx : C.VR g s.heap a x) (hy : C.VR g s.heap b y)
    (he : both intOf intOf a b (fun x y => some (f x y)) (both strOf strOf a b (fun x y => some (f' x y)) none) = some r)
    (hi : ∀ i j t u, r = f i j → wpAny (model C.prog C.w) A (compareOp op (.int i t) (.int j u)) Q E s) (hs : ∀ i j t u, r = f' i j → wpAny (model C.prog C.w) A (compareOp op (.str i t) (.str j u)) Q E s) :
    wpAny (model C.prog C.w) A (compareOp op x y) Q E s := by
  rcases some2 he with ⟨i, j, e1, e2, e⟩ | he
  · obtain ⟨t, u, rfl, rfl⟩ := ints_vr hx hy e1 e2
    exact hi i j t u (Option.some.inj e).symm
  · rcases some2 he with ⟨i, j, e1, e2, e⟩ | he
    · obtain ⟨t, u, rfl, rfl⟩ := strs_vr hx hy e1 e2
      exact hs i j t u (Option.some.inj e).symm
    · cases he
theorem isN_vr {a : PV} {x : Value} (hx : C.VR g h a x) : (x == .none) = isN a := by cases hx <;> rfl
theorem isNone2_eq {a b : PV} {x y : Value} {r : Bool} (hx : C.VR g h a x) (hy : C.VR g h b y) (he : isNone2 a b = some r) : y = .none ∧ r = (x == .none) := by
  unfold isNone2 at he
  cases hb : isN b with
  | false => rw [hb] at he; cases he
  | true =>
    rw [hb] at he
    have hy' := isN_vr hy
    rw [hb] at hy'
    exact ⟨by simpa using hy', by rw [isN_vr hx]; exact (Option.some.inj he).symm⟩
theorem isN_eq {v : PV} (h : isN v = true) : v = .none := by cases v <;> first | rfl | cases h
theorem eq_none {v : PV} : pvEq v .none = isN v := by cases v <;> rfl
theorem nones_vr (hu : A.units + 201 < cLine) : ∀ {l : List PV} {vs : List Value}, C.VRs g s.heap l vs → pureVs l = true → deeps l ≤ 200 → (∀ y ∈ vs, EqAt A.in1 s y .none (y == .none)) ∧ vs.any (· == .none) = l.any isN
  | [], [], _, _, _ => ⟨fun _ q => (nomatch q), rfl⟩
  | v :: l, x :: vs, .cons h1 h2, hp, hd => by
    obtain ⟨p1, p2⟩ := Bool.and_eq_true_iff.mp (show (pureV v && pureVs l) = true from hp)
    obtain ⟨d1, d2⟩ := Nat.max_le.mp (show max (deep v) (deeps l) ≤ 200 from hd)
    obtain ⟨i1, i2⟩ := nones_vr hu h2 p2 d2
    have e := (eqAt_n (s := s) (A := A.in1) _ (Nat.le_refl _) h1 (.none : C.VR g s.heap .none .none) p1 rfl (by show A.units + 1 + deep v < cLine; omega)).2
    rw [eq_none, ← isN_vr h1] at e
    refine ⟨fun y hy => ?_, by rw [List.any_cons, List.any_cons, i2, isN_vr h1]⟩
    rcases List.mem_cons.mp hy with rfl | hy
    · exact e
    · exact i1 y hy
theorem inTup_sound (hA : AOK C A d) (R : C.Rel σ g s.heap) {a b : PV} {x y : Value} {r : Bool} (hx : C.VR g s.heap a x) (hy : C.VR g s.heap b y) (he : inTup a b = some r) (hq : ∀ tk, Q (.bool r) { s with toks := tk }) :
    wpAny (model C.prog C.w) A (compareOp .In x y) Q E s := by
  unfold inTup at he
  cases hb : isN a with
  | false => rw [hb] at he; cases he
  | true =>
    rw [hb] at he
    rw [isN_eq hb] at hx
    cases (show x = .none from VR_inv hx)
    obtain ⟨l, h1, he⟩ := Option.bind_eq_some_iff.mp (show ((tupOf b).bind fun l => if pureVs l && small l.length && decide (deeps l ≤ 200) then some (l.any isN) else none) = some r from he)
    split at he
    · rename_i hc
      cases he
      obtain ⟨hc, hc3⟩ := Bool.and_eq_true_iff.mp hc
      rw [tupOf_eq h1] at hy
      obtain ⟨a', vs, rfl, h3, h4⟩ := VR_inv hy
      have hu := hA.units
      obtain ⟨e1, e2⟩ := nones_vr (om235 hu) h4 (Bool.and_eq_true_iff.mp hc).1 (of_decide_eq_true hc3)
      refine in_tupleAt (fun y => y == .none) (isTuple_of h3) (fun y hy => e1 y (Array.mem_toList_iff.mpr hy)) ?_
      rw [← Array.any_toList, e2]
      exact hq s.toks
    · cases he
open Classical in
theorem in_sound (R : C.Rel σ g s.heap) {a b : PV} {x y : Value} {f : Bool → Bool} {r : Bool} (hx : C.VR g s.heap a x) (hy : C.VR g s.heap b y)
    (he : both strOf dctOf a (deref σ b) (fun x l => if small l.length then some (f (dhas l x)) else none) none = some r) : ∃ k t p kvs, x = .str k t ∧ y = .ref p ∧ (p == sysModules) = false ∧ s.heap.DictOf (strKind C.prog C.w) p kvs ∧ f (valueAt kvs k).isSome = r := by
  rcases two_elim (fun o => o = some r) he with ⟨k, l, e1, e2, he⟩ | he
  · obtain ⟨t, rfl⟩ := str_vr e1 hx
    have hd := deref_sound R hy
    rw [dctOf_eq e2] at hd
    refine byC fun hZ => ?_
    obtain ⟨p, kvs, rfl, hm, h5, h6⟩ := hd
    refine hZ ?_; clear hZ
    refine ⟨k, t, p, kvs, rfl, rfl, by simpa using hm, h5, ?_⟩
    split at he
    · cases he
      have h7 := h6.get k
      have h8 : (dget l k).isSome = dhas l k := by
        unfold dget dhas
        rw [Option.isSome_map, Bool.eq_iff_iff, List.find?_isSome]
        simp
      rw [← h8]
      cases hq : dget l k with
      | none => rw [hq] at h7; have h7 : valueAt kvs k = none := h7; rw [h7]; rfl
      | some u => rw [hq] at h7; obtain ⟨w, h9, _⟩ := h7; rw [h9]; rfl
    · cases he
  · cases he
theorem cmpP_sound (hA : AOK C A d) (R : C.Rel σ g s.heap) {op : CmpOp} {a b : PV} {x y : Value} {r : Bool} (hx : C.VR g s.heap a x) (hy : C.VR g s.heap b y) (he : cmpP σ op a b = some r)
    (hq : ∀ tk, Q (.bool r) { s with toks := tk }) : wpAny (model C.prog C.w) A (compareOp op x y) Q E s := by
  cases op with
  | Eq => exact (eqP_sound hA R hx hy he).1 Q E hq
  | NotEq =>
    rcases Option.or_eq_some_iff.mp (show ((eqP σ a b).map (!·)).or (triNe σ a b) = some r from he) with he | ⟨_, he⟩
    · obtain ⟨r', h1, rfl⟩ := Option.map_eq_some_iff.mp he
      exact (eqP_sound hA R hx hy h1).2 Q E hq
    · exact triNe_sound hA R hx hy he (hq s.toks)
  | Lt => exact cmp2_sound hx hy he (fun _ _ _ _ e => by subst e; exact wpAny_lt_int (hq _)) (fun _ _ _ _ e => by subst e; exact PyProof.Rows.lt_str (hq _))
  | LtE => exact cmp2_sound hx hy he (fun _ _ _ _ e => by subst e; exact PyProof.Rows.le_int (hq _)) (fun _ _ _ _ e => by subst e; exact P.le_str (hq _))
  | Gt => exact cmp2_sound hx hy he (fun _ _ _ _ e => by subst e; exact PyProof.Rows.gt_int (hq _)) (fun _ _ _ _ e => by subst e; exact P.gt_str (hq _))
  | Is =>
    obtain ⟨rfl, rfl⟩ := isNone2_eq hx hy he
    exact PyProof.Rows.is_none_gen (hq s.toks)
  | IsNot =>
    obtain ⟨r', h1, rfl⟩ := Option.map_eq_some_iff.mp (show (isNone2 a b).map (!·) = some r from he)
    obtain ⟨rfl, rfl⟩ := isNone2_eq hx hy h1
    exact PyProof.Rows.isnot_none_gen (hq s.toks)
  | In => exact inTup_sound hA R hx hy he hq
  | NotIn =>
    obtain ⟨k, t, p, kvs, rfl, rfl, h1, h2, rfl⟩ := in_sound (f := (!·)) R hx hy he
    exact wpAny_notIn_of (strKind_is C.prog C.w k t) h1 h2.mapOf (hq _)
  | _ => cases he

theorem small_le {n : Nat} (h : small n = true) : n ≤ 1000000 := by simpa [small] using h

theorem isEmpty_len {vs : Array Value} {n : Nat} (h : vs.size = n) : (!vs.isEmpty) = (n != 0) := by
  subst h
  rw [Bool.eq_iff_iff]; simp [Array.isEmpty]
theorem len_cast (n : Nat) : ((n : Int) != 0) = (n != 0) := by rw [Bool.eq_iff_iff]; simp

theorem truthN_some {n : Nat} {r : Bool} (h : truthN n = some r) : n ≤ 1000000 ∧ r = (n != 0) := by
  unfold truthN at h
  split at h
  · exact ⟨small_le ‹_›, (Option.some.inj h).symm⟩
  · cases h
theorem truth_sound (R : C.Rel σ g s.heap) {v : PV} {x : Value} {r : Bool} {Q : Bool → Shared → Prop} (hv : C.VR g s.heap v x) (he : truth σ v = some r) (hq : ∀ tk, Q r { s with toks := tk }) :
    wpAny (model C.prog C.w) A (truthy x) Q E s := by
  have hd := deref_sound R hv
  have he : truthD (deref σ v) = some r := he
  generalize deref σ v = w at hd he
  cases w with
  | none => cases hd; cases he; exact truthy_none (hq _)
  | bool b => cases hd; cases he; exact wpAny_truthy_bool (hq _)
  | int i => obtain ⟨t, rfl⟩ := hd; cases he; exact PyProof.Rows.truthy_int (hq _)
  | _ => cases he
end Mine

set_option autoImplicit false
set_option backward.match.sparseCases true
namespace Mine
open PySem PyProof.Rows PySem.SeqAt

variable {C : Fix} {σ : AH} {g g' : Cfg} {h h' : Heap} {s s' : Shared} {own : Addr → Prop} {A : Around} {d : Nat}
  {Q : Value → Shared → Prop} {E : Value → Shared → Prop}

theorem pickAt_some {l : List PV} {k : Int} {o : Out} (h : pickAt l k = some o) : 0 ≤ k ∧ k ≤ 1000000 ∧ ∃ v, l[k.toNat]? = some v ∧ o = .v v := by
  unfold pickAt at h
  split at h
  · rename_i hk
    obtain ⟨v, h1, h2⟩ := Option.map_eq_some_iff.mp h
    exact ⟨hk.1, hk.2, v, h1, h2.symm⟩
  · cases h

theorem seqIndex_nat {k : Int} {n : Nat} (h0 : 0 ≤ k) (h1 : k.toNat < n) : seqIndex? k n = some k.toNat := by
  unfold seqIndex?
  have h2 : ¬ k < 0 := by exact om242 h0
  simp only [h2, if_false]
  split
  · rfl
  · rename_i h3; simp at h3; exact (om241 h1 h2 h3).elim

theorem getAt_tail (R : C.Rel σ g s.heap) {value slice : Expr} {a i : PV} {x y : Value} (hx : C.VR g s.heap a x) (hy : C.VR g s.heap i y) (hn : notSlice slice = true)
    (hp : PostO C σ g s (getAt σ a i) Q) : wpAny (model C.prog C.w) A (subscriptTail value slice x y) Q E s := by
  have hs : ∀ o i, subscripted slice false o i = operate [o, i] (getItem o i) := fun o i => by
    cases slice <;> first | rfl | cases hn
  have hd := deref_sound R hx
  rcases hp.both with ⟨l, k, e1, e2, hp⟩ | hp
  · obtain ⟨u, rfl⟩ := int_vr e2 hy
    obtain ⟨o, ho, hp⟩ : ∃ o, pickAt l k = some o ∧ PostO C σ g s (some o) Q := by
      cases ho : pickAt l k with
      | none => rw [ho] at hp; exact hp.elim
      | some o => rw [ho] at hp; exact ⟨o, rfl, hp⟩
    refine byC fun hZ => ?_
    obtain ⟨h0, h1, v, h2, rfl⟩ := pickAt_some ho
    refine hZ ?_; clear hZ
    have hlt : k.toNat < l.length := (List.getElem?_eq_some_iff.mp h2).1
    rcases seqOf_eq e1 with e1 | e1
    · rw [e1] at hd
      refine byC fun hZ => ?_
      obtain ⟨p, vs, rfl, hl, hv⟩ := hd
      have hl := isTuple_of hl
      obtain ⟨z, h3, h4⟩ := hv.get h2
      refine hZ ?_; clear hZ
      exact tail_any (o := .ref _) (show s.TypeIs _ "tuple" from let ⟨ob, q1, q2, _⟩ := hl; ⟨ob, q1, q2⟩) PySem.F.slot_tuple_getitem.lookup (PyProof.Rows.getItem_tuple hl (by lia) (by lia) (seqIndex_nat h0 (by rw [hv.size]; exact hlt)) (by simpa using h3) (hp.val (tk := s.toks) R h4)) (hs _ _)
    · rw [e1] at hd
      refine byC fun hZ => ?_
      obtain ⟨p, vs, rfl, hl, hv⟩ := hd
      have hl := isList_of hl
      obtain ⟨z, h3, h4⟩ := hv.get h2
      refine hZ ?_; clear hZ
      exact tail_any hl.typeIs slot_list_getitem.lookup (wpAny_getItem_list hl h0 (by lia) (by simpa using h3) (hp.val (tk := s.toks) R h4)) (hs _ _)
  · rcases hp.both with ⟨z, k, e1, e2, hp⟩ | hp
    · refine byC fun hZ => ?_
      obtain ⟨u, rfl⟩ := int_vr e2 hy
      obtain ⟨t, rfl⟩ := str_vr e1 hx
      refine hZ ?_; clear hZ
      unfold signOf at hp
      split at hp
      · rename_i h0
        cases hc : z.cps[k.toNat]? with
        | none => rw [hc] at hp; exact hp.elim
        | some c =>
          rw [hc] at hp
          have hlt : k.toNat < z.length := (Array.getElem?_eq_some_iff.mp hc).1
          refine tail_any (typeIs_str s z t) PySem.F.slot_str_getitem.lookup (PyProof.Rows.getItem_str (c := c) ?_ ?_ (hp.val R (.str ..))) (hs _ _)
          · rw [decide_eq_false (by lia), decide_eq_false (by lia)]; rfl
          · rw [seqIndex_nat h0.1 hlt]; exact hc
      · exact hp.elim
    · rcases hp.both with ⟨l, k, e1, e2, hp⟩ | hp
      · obtain ⟨u, rfl⟩ := str_vr e2 hy
        rw [dctOf_eq e1] at hd
        refine byC fun hZ => ?_
        obtain ⟨p, kvs, rfl, _, hl, hv⟩ := hd
        refine hZ ?_; clear hZ
        have := hv.get k
        cases ho : dget l k with
        | none => rw [ho] at hp; exact hp.elim
        | some v =>
          rw [ho] at hp this
          obtain ⟨z, h1, h2⟩ := this
          exact tail_any hl.typeIs slot_dict_getitem.lookup (wpAny_getItem_of (strKind_is C.prog C.w k u) hl.mapOf h1 (hp.val R h2)) (hs _ _)
      · exact hp.elim
end Mine

set_option autoImplicit false
set_option backward.match.sparseCases true
namespace Mine
open PySem PyProof.Rows PySem.SeqAt

variable {C : Fix} {σ : AH} {g g' : Cfg} {h h' : Heap} {s s' : Shared} {own : Addr → Prop} {A : Around} {d : Nat}
  {Q : Value → Shared → Prop} {E : Value → Shared → Prop}

theorem vrd_keys {l : List (Str × PV)} {kvs : List (Str × Value)} (hv : C.VRd g h l kvs) {i : Nat} {k : Str} {x z : Value} (h1 : kvs[i]? = some (k, x)) (h2 : (strKind C.prog C.w).is k z = true) {u : PV}
    (h3 : (l.map fun kv => PV.str kv.1)[i]? = some u) : C.VR g h u z := by
  obtain ⟨t, rfl⟩ := Value.isStrOf_shape h2
  have hk := hv.keys
  have e1 : (kvs.map (·.1))[i]? = some k := by rw [List.getElem?_map, h1]; rfl
  rw [hk, List.getElem?_map] at e1
  rw [List.getElem?_map] at h3
  cases hq : l[i]? with
  | none => rw [hq] at h3; cases h3
  | some p =>
    rw [hq] at h3 e1
    simp only [Option.map_some, Option.some.injEq] at h3 e1
    subst h3 e1
    exact .str ..

theorem ints_get {lo hi : Int} {i : Nat} {u : PV} (h : (rngInts lo hi)[i]? = some u) : u = .int (lo + i) := by
  unfold rngInts at h
  rw [List.getElem?_map] at h
  cases hq : (List.range (hi - lo).toNat)[i]? with
  | none => rw [hq] at h; cases h
  | some p =>
    rw [hq] at h
    have hlt := (List.getElem?_eq_some_iff.mp hq).1
    have : p = i := by simpa using ((List.getElem?_eq_some_iff.mp hq).2).symm
    subst this
    simpa using h.symm
theorem ints_len (lo hi : Int) : (rngInts lo hi).length = (hi - lo).toNat := by simp [rngInts]

theorem walks_len {prog : Program} {w : World} {I : Addr} {fp wr : List Addr} {n m : Nat} {P : Nat → Value → Prop} {St : Nat → Heap → Prop} (e : n = m) (W : Walks prog w A I fp wr n P St) : Walks prog w A I fp wr m P St := by subst e; exact W

noncomputable def PlainIter (h : Heap) (I : Addr) : Prop := ∃ ob n, h.get? I = some ob ∧ ob.cls = .type n ∧ ["enumerate", "zip", "dict_itemiterator", "dict_reverseitemiterator", "odict_iterator", "itertools.zip_longest", "itertools.pairwise"].contains n = false ∧ dD ob = false
theorem pyIter_sound (hh : A.handled = none) (R : C.Rel σ g s.heap) {v : PV} {x : Value} {l : List PV} (hv : C.VR g s.heap v x) (hi : items σ v = some l)
    (hq : ∀ (o : Obj) (fp : List Addr) (P : Nat → Value → Prop) (St : Nat → Heap → Prop), Walks C.prog C.w A s.heap.objs.size fp [s.heap.objs.size] l.length P St → St 0 (s.heap.push o) → (∀ b ∈ fp, b = s.heap.objs.size ∨ x = .ref b) → (∀ i z u, P i z → l[i]? = some u → C.VR g s.heap u z) → (∀ i h, St i h → PlainIter h s.heap.objs.size) → Q (.ref s.heap.objs.size) { s with heap := s.heap.push o }) :
    wpAny (model C.prog C.w) A (pyIter x) Q E s := by
  have ne : ∀ {a : Addr} {o : Obj}, s.heap.get? a = some o → a ≠ s.heap.objs.size := fun e => Nat.ne_of_lt (Heap.lt_size e)
  have list : ∀ {a : Addr} {vs : Array Value} {r : List PV}, x = .ref a → r = l → s.heap.IsList a vs → C.VRs g s.heap r vs.toList → wpAny (model C.prog C.w) A (pyIter x) Q E s := by
    rintro a vs r rfl rfl hl hr
    obtain ⟨o, ho, hrest⟩ := id hl
    refine wpAny_pyIter_list hl (hq _ [s.heap.objs.size, a] _ _ (walks_len hr.size (Walks.list hh s.heap.objs.size a (ne ho) vs)) ⟨⟨_, Heap.get?_push_size _ rfl, rfl, rfl⟩, hl.push _⟩ (fun b hb => ?_) (fun i z u h1 h2 => ?_) (fun i h st => by obtain ⟨⟨ob, q1, q2, q3⟩, _⟩ := st; exact ⟨ob, _, q1, q2, by decide, by show dDd ob.data = false; rw [q3]; rfl⟩))
    · rcases List.mem_cons.mp hb with e | e
      · exact .inl e
      · exact .inr (by rw [List.mem_singleton.mp e])
    · obtain ⟨y, h3, h4⟩ := hr.get h2
      have h1' : vs.toList[i]? = some z := by simpa using h1
      rw [h1'] at h3; cases h3; exact h4
  have dict : ∀ {a : Addr} {kvs : List (Str × Value)} {r : List (Str × PV)}, x = .ref a → (r.map fun kv => PV.str kv.1) = l → a ≠ sysModules → s.heap.DictOf (strKind C.prog C.w) a kvs → C.VRd g s.heap r kvs → wpAny (model C.prog C.w) A (pyIter x) Q E s := by
    rintro a kvs r rfl rfl hm hl hr
    obtain ⟨ep, hd⟩ := hl.dictAt
    obtain ⟨o, es, ho, hrest⟩ := id hd
    have hlen : kvs.length = (r.map fun kv => PV.str kv.1).length := by rw [List.length_map, hr.length]
    refine wpAny_pyIter_dict (by simpa using hm) hd (hq _ [s.heap.objs.size, a] _ _ (walks_len hlen (Walks.dictKeys hh s.heap.objs.size a (ne ho) kvs ep)) ⟨⟨_, Heap.get?_push_size _ rfl, rfl, rfl⟩, hd.keep fun b o e => Heap.get?_push_of_some _ e⟩ (fun b hb => ?_) (fun i z u h1 h2 => ?_) (fun i h st => by obtain ⟨⟨ob, q1, q2, q3⟩, _⟩ := st; exact ⟨ob, _, q1, q2, by decide, by show dDd ob.data = false; rw [q3]; rfl⟩))
    · rcases List.mem_cons.mp hb with e | e
      · exact .inl e
      · exact .inr (by rw [List.mem_singleton.mp e])
    · obtain ⟨k, y, h3, h4⟩ := h1
      exact vrd_keys hr h3 h4 h2
  have hd := deref_sound R hv
  have hi : itemsD (deref σ v) = some l := hi
  generalize deref σ v = w at hd hi
  cases w with
  | tup r =>
    obtain ⟨a, vs, rfl, hl, hr⟩ := hd
    have hl := isTuple_of hl
    have hi : r = l := Option.some.inj hi
    subst hi
    obtain ⟨o, ho, hrest⟩ := id hl
    refine wpAny_pyIter_tuple hl (hq _ [s.heap.objs.size, a] _ _ (walks_len hr.size (Walks.tuple hh s.heap.objs.size a (ne ho) vs)) ⟨⟨_, Heap.get?_push_size _ rfl, rfl, rfl⟩, hl.push _⟩ (fun b hb => ?_) (fun i z u h1 h2 => ?_) (fun i h st => by obtain ⟨⟨ob, q1, q2, q3⟩, _⟩ := st; exact ⟨ob, _, q1, q2, by decide, by show dDd ob.data = false; rw [q3]; rfl⟩))
    · rcases List.mem_cons.mp hb with e | e
      · exact .inl e
      · exact .inr (by rw [List.mem_singleton.mp e])
    · obtain ⟨y, h3, h4⟩ := hr.get h2
      have h1' : vs.toList[i]? = some z := by simpa using h1
      rw [h1'] at h3; cases h3; exact h4
  | lst r => obtain ⟨a, vs, rfl, hl, hr⟩ := hd; exact list rfl (Option.some.inj hi) (isList_of hl) hr
  | rng lo hi' =>
    obtain ⟨a, rfl, b1, b2, t, u, w', hr⟩ := hd
    have hi : rngInts lo hi' = l := Option.some.inj hi
    subst hi
    have hsz := rangeSize_one lo hi'
    refine wpAny_pyIter_range hr (small_one (by lia) (by lia) (by lia) (by lia)) (hq _ [s.heap.objs.size] _ _ (walks_len (ints_len lo hi').symm (Walks.range hh s.heap.objs.size lo 1 (hi' - lo).toNat)) ?_ (fun b hb => .inl (List.mem_singleton.mp hb)) (fun i z y h1 h2 => ?_) (fun i h st => ⟨_, _, st, rfl, by decide, rfl⟩))
    · show IsRangeIter _ _ (lo + ((0 : Nat) : Int) * 1) (((hi' - lo).toNat : Int) - ((0 : Nat) : Int)) 1
      have e1 : lo + ((0 : Nat) : Int) * 1 = lo := by simp
      have e2 : (((hi' - lo).toNat : Int) - ((0 : Nat) : Int)) = Builtin.Range.rangeSize lo hi' 1 := by rw [hsz]; split <;> (first | exact om243 (by assumption) | exact om244 (by assumption))
      rw [e1, e2]
      exact Heap.get?_push_size _ rfl
    · obtain ⟨t', rfl⟩ := h1
      rw [ints_get h2, Int.mul_one]
      exact .int ..
  | dct r => obtain ⟨a, vs, rfl, hm, hl, hr⟩ := hd; exact dict rfl (Option.some.inj hi) hm hl hr
  | _ => cases hi
end Mine

set_option autoImplicit false
set_option backward.match.sparseCases true
namespace Mine
open PySem PyProof.Rows PySem.SeqAt

variable {C : Fix} {σ : AH} {g g' : Cfg} {h h' : Heap} {s s' : Shared} {own : Addr → Prop} {A : Around} {d : Nat}
  {Q : Value → Shared → Prop} {E : Value → Shared → Prop}

noncomputable def Ty.val : Ty → Value
  | .int => .type "int" | .bool => .type "bool" | .str => .type "str" | .tuple => .type "tuple" | .list => .type "list" | .dict => .type "dict"

theorem isList_cls {h : Heap} {a : Addr} {vs : Array Value} (x : h.IsList a vs) : ∃ o, h.get? a = some o ∧ o.cls = .type "list" := let ⟨o, h1, h2, _⟩ := x; ⟨o, h1, h2⟩
theorem isTuple_cls {h : Heap} {a : Addr} {vs : Array Value} (x : h.IsTuple a vs) : ∃ o, h.get? a = some o ∧ o.cls = .type "tuple" := let ⟨o, h1, h2, _⟩ := x; ⟨o, h1, h2⟩
theorem dictOf_cls {prog : Program} {w : World} {h : Heap} {a : Addr} {kvs : List (Str × Value)} (x : h.DictOf (strKind prog w) a kvs) : ∃ o, h.get? a = some o ∧ o.cls = .type "dict" := let ⟨o, _, _, h1, h2, _⟩ := x; ⟨o, h1, h2.1⟩

theorem isinst_sound (R : C.Rel σ g s.heap) {t : Ty} {v : PV} {x : Value} {r : Bool} (hv : C.VR g s.heap v x) (he : isTy σ t v = some r) (hq : ∀ tk, Q (.bool r) { s with toks := tk }) :
    wpAny (model C.prog C.w) A (call (.builtin "isinstance") [x, t.val]) Q E s := by
  have hd := deref_sound R hv
  have he : isTyD t (deref σ v) = some r := he
  generalize deref σ v = w at hd he
  cases w with
  | none => cases hd; cases he; cases t <;> first | exact IsiPair.NoneType_int (hq _) | exact IsiPair.NoneType_bool (hq _) | exact IsiPair.NoneType_str (hq _) | exact IsiPair.NoneType_tuple (hq _) | exact IsiPair.NoneType_list (hq _) | exact IsiPair.NoneType_dict (hq _)
  | bool b => cases hd; cases he; cases t <;> first | exact IsiPair.bool_int (hq _) | exact IsiPair.bool_bool (hq _) | exact IsiPair.bool_str (hq _) | exact IsiPair.bool_tuple (hq _) | exact IsiPair.bool_list (hq _) | exact IsiPair.bool_dict (hq _)
  | int i => obtain ⟨u, rfl⟩ := hd; cases he; cases t <;> first | exact IsiPair.int_int (hq _) | exact IsiPair.int_bool (hq _) | exact IsiPair.int_str (hq _) | exact IsiPair.int_tuple (hq _) | exact IsiPair.int_list (hq _) | exact IsiPair.int_dict (hq _)
  | str y => obtain ⟨u, rfl⟩ := hd; cases he; cases t <;> first | exact IsiPair.str_int (hq _) | exact IsiPair.str_bool (hq _) | exact IsiPair.str_str (hq _) | exact IsiPair.str_tuple (hq _) | exact IsiPair.str_list (hq _) | exact IsiPair.str_dict (hq _)
  | tup l =>
    refine byC fun hZ => ?_
    obtain ⟨a, vs, rfl, hl, hr⟩ := hd
    obtain ⟨o, h1, h2⟩ := isTuple_cls (isTuple_of hl)
    refine hZ ?_; clear hZ
    cases he
    cases t <;> first | exact IsiPair.tuple_int h1 h2 (hq _) | exact IsiPair.tuple_bool h1 h2 (hq _) | exact IsiPair.tuple_str h1 h2 (hq _) | exact IsiPair.tuple_tuple h1 h2 (hq _) | exact IsiPair.tuple_list h1 h2 (hq _) | exact IsiPair.tuple_dict h1 h2 (hq _)
  | lst l =>
    refine byC fun hZ => ?_
    obtain ⟨a, vs, rfl, hl, hr⟩ := hd
    obtain ⟨o, h1, h2⟩ := isList_cls (isList_of hl)
    refine hZ ?_; clear hZ
    cases he
    cases t <;> first | exact IsiPair.list_int h1 h2 (hq _) | exact IsiPair.list_bool h1 h2 (hq _) | exact IsiPair.list_str h1 h2 (hq _) | exact IsiPair.list_tuple h1 h2 (hq _) | exact IsiPair.list_list h1 h2 (hq _) | exact IsiPair.list_dict h1 h2 (hq _)
  | dct l =>
    refine byC fun hZ => ?_
    obtain ⟨a, vs, rfl, hm, hl, hr⟩ := hd
    obtain ⟨o, h1, h2⟩ := dictOf_cls hl
    refine hZ ?_; clear hZ
    cases he
    cases t <;> first | exact IsiPair.dict_int h1 h2 (hq _) | exact IsiPair.dict_bool h1 h2 (hq _) | exact IsiPair.dict_str h1 h2 (hq _) | exact IsiPair.dict_tuple h1 h2 (hq _) | exact IsiPair.dict_list h1 h2 (hq _) | exact IsiPair.dict_dict h1 h2 (hq _)
  | _ => cases he

theorem len_sound (R : C.Rel σ g s.heap) {v : PV} {x : Value} {n : Nat} (hv : C.VR g s.heap v x) (he : lenP σ v = some n) (hn : n ≤ 1000000) (hq : ∀ t tk, Q (.int n t) { s with toks := tk }) :
    wpAny (model C.prog C.w) A (call (.builtin "len") [x]) Q E s := by
  have hd := deref_sound R hv
  have he : lenD (deref σ v) = some n := he
  generalize deref σ v = w at hd he
  cases w with
  | str y => obtain ⟨t, rfl⟩ := hd; cases he; exact PyProof.Rows.len_str (by lia) (hq _ _)
  | tup l =>
    refine byC fun hZ => ?_
    obtain ⟨a, vs, rfl, hl, hr⟩ := hd
    refine hZ ?_; clear hZ
    cases he
    have h4 := hr.size
    exact PyProof.Rows.len_tuple (isTuple_of hl) (by lia) (by rw [h4]; exact hq _ _)
  | lst l =>
    refine byC fun hZ => ?_
    obtain ⟨a, vs, rfl, hl, hr⟩ := hd
    refine hZ ?_; clear hZ
    cases he
    have h4 := hr.size
    exact Calls.call_len_list (isList_of hl) (by lia) (by rw [h4]; exact hq _ _)
  | dct l =>
    refine byC fun hZ => ?_
    obtain ⟨a, kvs, rfl, hm, hl, hr⟩ := hd
    refine hZ ?_; clear hZ
    cases he
    have h4 := hr.length
    exact call_len_dict (by simpa using hm) hl (by lia) (by rw [← h4]; exact hq _ _)
  | _ => cases he

theorem PostO.newAt {v : PV} {x : Value} (hp : PostO C σ g s (some (.v v)) Q) (R : C.Rel σ g s.heap) {a : Addr} {h' : Heap} {tk : Nat} (hk : ∀ b o, s.heap.get? b = some o → h'.get? b = some o) (ha : s.heap.get? a = none) (hl : (h'.get? a).isSome = true)
    (hv : C.VR (g.frz a) h' v x) : Q x { s with heap := h', toks := tk } :=
  hp (g.frz a) _ _ ((Ext.all hk).frz ha) ((R.kept (.of_all hk)).frz (R.fresh ha).1 hl) hv
theorem PostO.madeAt {f : Frs} (hp : PostO C σ g s (some (.f f)) Q) (R : C.Rel σ g s.heap) {a : Addr} {h' : Heap} {tk : Nat} {dr : Drawn} (hk : ∀ b o, s.heap.get? b = some o → h'.get? b = some o) (ha : s.heap.get? a = none)
    (hr : FrsR C g h' f a) : Q (.ref a) { s with heap := h', drawn := dr, toks := tk } :=
  hp g _ _ (Ext.all hk) (R.kept (.of_all hk)) ⟨_, rfl, ha, (R.fresh ha).1, (R.fresh ha).2, hr⟩

theorem asSeq_cases {v : PV} {l : List PV} (hl : asSeq σ v = some l) : v = .tup l ∨ asList σ v = some l := by
  cases v with
  | tup r => exact .inl (congrArg PV.tup (Option.some.inj hl))
  | ref i =>
    refine .inr ?_
    have hl : seqOf (derefO σ[i]?) = some l := hl
    show lstOf (derefO σ[i]?) = some l
    generalize σ[i]? = o at hl
    rcases o with _ | (_ | _) <;> exact hl
  | _ => exact .inr hl
theorem tuple_sound (R : C.Rel σ g s.heap) {v : PV} {x : Value} {l : List PV} (hv : C.VR g s.heap v x) (he : asSeq σ v = some l) (hn : l.length ≤ 1000000) (hp : PostO C σ g s (some (.v (.tup l))) Q) :
    wpAny (model C.prog C.w) A (call (.type "tuple") [x]) Q E s := by
  rcases asSeq_cases he with rfl | he
  · have hv0 := hv
    obtain ⟨a, vs, rfl, h1, h2⟩ := VR_inv hv
    exact call_tuple_same (isTuple_of h1) (hp.val (tk := s.toks) R hv0)
  · refine byC fun hZ => ?_
    obtain ⟨a, vs, rfl, h2, h3⟩ := asList_sound R he hv
    refine hZ ?_; clear hZ
    have h4 := h3.size
    refine call_tuple_list h2 (fun h' hk => ?_) (by rw [h4, sizeLine_eq]; exact om250 hn)
    have hk' : ∀ b o, s.heap.get? b = some o → (h'.push { cls := .type "tuple", data := .seq vs }).get? b = some o := fun b o e => Heap.get?_push_of_some _ (hk b o e)
    have hnone : s.heap.get? h'.objs.size = none := by
      cases hq : s.heap.get? h'.objs.size with
      | none => rfl
      | some o => exact absurd (Heap.lt_size (hk _ _ hq)) (Nat.lt_irrefl _)
    refine hp.newAt (tk := s.toks) R hk' hnone (isSome_of (Heap.get?_push_size _ rfl)) (.tup (.inr rfl) ⟨_, Heap.get?_push_size _ rfl⟩ (VRs_frz (C := C) (VRs_kept (C := C) (.of_all hk') h3)))

theorem vrs_of_items {l : List PV} {acc : Array Value} {P : Nat → Value → Prop} (hi : ItemsOf P acc l.length) (hP : ∀ i z u, P i z → l[i]? = some u → C.VR g h u z) : C.VRs g h l acc.toList := by
  obtain ⟨h1, h2⟩ := hi
  have key : ∀ (l : List PV) (xs : List Value), l.length = xs.length → (∀ (i : Nat) u z, l[i]? = some u → xs[i]? = some z → C.VR g h u z) → C.VRs g h l xs := by
    intro l
    induction l with
    | nil => intro xs hl _; cases xs with | nil => exact .nil | cons => cases hl
    | cons a l ih => intro xs hl hh; cases xs with
      | nil => cases hl
      | cons x xs => exact .cons (hh 0 a x rfl rfl) (ih xs (by simpa using hl) fun i u z e1 e2 => hh (i + 1) u z (by simpa using e1) (by simpa using e2))
  exact key l acc.toList (by simp [h1]) fun i u z e1 e2 => hP i z u (h2 i z (by simpa using e2)) e1

theorem list_sound (hA : AOK C A d) (R : C.Rel σ g s.heap) {v : PV} {x : Value} {l : List PV} (hd : VRi C g s.heap v x) (he : seqOf v = some l) (hn : l.length ≤ 1000000) (hp : PostO C σ g s (some (.f (.list l))) Q) :
    wpAny (model C.prog C.w) A (call (.type "list") [x]) Q E s := by
  have seq : ∀ {a : Addr} {vs : Array Value}, (s.heap.IsList a vs ∨ s.heap.IsTuple a vs) → C.VRs g s.heap l vs.toList → wpAny (model C.prog C.w) A (call (.type "list") [.ref a]) Q E s := by
    intro a vs h1 h2
    have h4 := h2.size
    have fin : ∀ h' c', (∀ b o', s.heap.get? b = some o' → h'.get? b = some o') → h'.get? s.heap.objs.size = some { cls := .type "list", dict := none, data := .seq vs c', slots := #[] } → Q (.ref s.heap.objs.size) { s with heap := h' } :=
      fun h' c' hk hx => hp.madeAt (tk := s.toks) R hk (get?_size _) ⟨vs, ⟨c', hx⟩, VRs_kept (C := C) (.of_all hk) h2⟩
    rcases h1 with ⟨o, ho, hc, n, hd⟩ | ⟨o, ho, hc, n, hd⟩
    · exact call_list_seq a (T := "list") (.inl rfl) ho hc hd fin (by rw [h4, sizeLine_eq]; exact om250 hn)
    · exact call_list_seq a (T := "tuple") (.inr rfl) ho hc hd fin (by rw [h4, sizeLine_eq]; exact om250 hn)
  rcases seqOf_eq he with rfl | rfl
  · obtain ⟨a, vs, rfl, hl, hr⟩ := hd; exact seq (.inr (isTuple_of hl)) hr
  · obtain ⟨a, vs, rfl, hl, hr⟩ := hd; exact seq (.inl (isList_of hl)) hr

end Mine

set_option autoImplicit false
set_option backward.match.sparseCases true
namespace Mine
open PySem PyProof.Rows PySem.SeqAt

variable {C : Fix} {σ : AH} {g g' : Cfg} {h h' : Heap} {s s' : Shared} {own : Addr → Prop} {A : Around} {d : Nat}
  {Q : Value → Shared → Prop} {E : Value → Shared → Prop}

theorem PostO.valAt {v : PV} {x : Value} (hp : PostO C σ g s (some (.v v)) Q) (R : C.Rel σ g s.heap) {h' : Heap} {tk : Nat} (hk : ∀ b o, s.heap.get? b = some o → h'.get? b = some o) (hv : C.VR g h' v x) : Q x { s with heap := h', toks := tk } :=
  hp g _ x (Ext.all hk) (R.kept (.of_all hk)) hv

theorem sortedS_pair : ∀ (l : List Str), sortedS l = true → l.Pairwise fun a b => strLt b a = false := by
  have key : ∀ (l : List Str) (p : Str), risingS p l = true → (p :: l).Pairwise fun a b => strLt b a = false := by
    intro l
    induction l with
    | nil => intro p _; simp
    | cons x r ih =>
      intro p hp
      have hp' : (!Spec.ltCps x.cps.toList p.cps.toList && risingS x r) = true := hp
      obtain ⟨h1, h2⟩ := Bool.and_eq_true_iff.mp hp'
      have h3 : strLt x p = false := by
        rw [ltCps_eq] at h1
        simpa [strLt] using h1
      have h4 := ih x h2
      refine List.pairwise_cons.mpr ⟨fun y hy => ?_, h4⟩
      rcases List.mem_cons.mp hy with rfl | hy
      · exact h3
      · have h5 := (List.pairwise_cons.mp h4).1 y hy
        have := strLe_trans (a := p) (b := x) (c := y) (by simp [h3]) (by simp [h5])
        simpa using this
  intro l hl
  cases l with
  | nil => exact .nil
  | cons x r => exact key r x hl
theorem vrs_strs : ∀ {l : List PV} {r : List Value} {ss : List Str}, C.VRs g h l r → strsOf l = some ss → StrsAre r ss := by
  intro l
  induction l with
  | nil => intro r ss hv hs; cases hv; cases hs; exact .nil
  | cons v l ih =>
    intro r ss hv hs
    cases hv with
    | cons ha hl =>
      refine byC fun hZ => ?_
      obtain ⟨x, h0, hs⟩ := bind_elim (fun o => o = some ss) (fun q => nomatch q) hs
      obtain ⟨ss', h1, rfl⟩ := Option.map_eq_some_iff.mp hs
      obtain ⟨t, rfl⟩ := str_vr h0 ha
      refine hZ ?_; clear hZ
      exact .cons x t (ih hl h1)
theorem strs_vrs : ∀ {r : List Value} {ss : List Str}, StrsAre r ss → C.VRs g h (ss.map .str) r := by
  intro r ss hs
  induction hs with
  | nil => exact .nil
  | cons x t _ ih => exact .cons (.str x t) ih
theorem strsOf_len : ∀ {l : List PV} {ss : List Str}, strsOf l = some ss → ss.length = l.length := by
  intro l
  induction l with
  | nil => intro ss h; cases h; rfl
  | cons v l ih =>
    intro ss h
    refine byC fun hZ => ?_
    obtain ⟨x, h0, hs⟩ := bind_elim (fun o => o = some ss) (fun q => nomatch q) h
    obtain ⟨ss', h1, rfl⟩ := Option.map_eq_some_iff.mp hs
    refine hZ ?_; clear hZ
    exact congrArg Nat.succ (ih h1)


theorem strsOf_keys (r : List (Str × PV)) : strsOf (r.map fun kv => PV.str kv.1) = some (r.map (·.1)) := by
  induction r with
  | nil => rfl
  | cons p r ih => exact congrArg (Option.map (p.1 :: ·)) ih

theorem list_sort_strs {a : Addr} {vs : List Value} {ss : List Str} {n : Nat} {P : PySem.Fin → Shared → Prop} (ho : s.heap.get? a = some (seqObj "list" vs.toArray n)) (hS : StrsAre vs ss) (h64 : vs.length < sortMost)
    (h : ∀ out, StrsAre out.toList (sortS ss) → P (.done (.ret .none)) { s with heap := sortedHeap s.heap a vs out }) :
    wpAny (model C.prog C.w) A (Builtin.«list.sort» ⟨[.ref a], []⟩) P E s := by
  have fin : ∀ st' : SortSt, (arrOf st').Perm (PyProof.Rows.pairsOf vs) → SortedToK strKind (arrOf st') (PyProof.Rows.pairsOf vs).size → P (.done (.ret .none)) { s with heap := sortedHeap s.heap a vs ((arrOf st').map (·.2)) } := by
    intro st' hp hs
    refine byC fun hZ => ?_
    obtain ⟨ss', h1, h2, h3⟩ := sorted_out_str hS hp hs
    refine hZ ?_; clear hZ
    refine h _ ?_
    rw [sortS_unique h2 (sortedS_pair ss' h3)] at h1
    exact h1
  exact list_sort_treeK strKind_oneLt ho hS.keysOf (fun v₁ v₂ rest e => keyKind_strs (by rw [← e]; exact hS)) h64 fin

theorem sorted_tail (R : C.Rel σ g s.heap) {x : Value} {ss : List Str} (hl : ss.length < sortMost)
    (hc : ∀ (R' : List Value → Shared → Prop), (∀ (h' : Heap) (dr : Drawn) (tk : Nat) (vs : List Value) (ks : List Str), (∀ b o, s.heap.get? b = some o → h'.get? b = some o) → StrsAre vs ks → ks.Perm ss → R' vs { s with heap := h', drawn := dr, toks := tk }) → wpAny (model C.prog C.w) A.in1 (collect x) R' E s)
    (hp : PostO C σ g s (some (.f (.list ((sortS ss).map .str)))) Q) :
    wpAny (model C.prog C.w) A (call (.builtin "sorted") [x]) Q E s := by
  refine Calls.call_function_entry kind_sorted plain_sorted entry_sorted (args_sorted1 _) ?_
  unfold Builtin.«sorted»
  refine wpAny_bind (m := checkCount "sorted" 1 1 _) (wpAny_pure ?_)
  refine wpAny_bind (hc _ fun h' dr tk vs ks hk hS hks => ?_)
  have hlen : vs.length = ss.length := by rw [← hks.length_eq, ← hS.strs, List.length_map]
  have hsame : sortS ks = sortS ss := (sortS_unique ((sortS_perm ks).trans hks) (sortS_sorted ks))
  have h64 : sortMost ≤ 100 := by decide
  refine wpAny_bind (wpAny_newList ?_ (by rw [hlen, sizeLine_eq]; exact om255 hl h64))
  have hoL : (h'.push (seqObj "list" vs.toArray 0)).get? h'.objs.size = some (seqObj "list" vs.toArray 0) := Heap.get?_push_size _ rfl
  have hnone : s.heap.get? h'.objs.size = none := by
    cases hq : s.heap.get? h'.objs.size with
    | none => rfl
    | some o => exact absurd (Heap.lt_size (hk _ _ hq)) (Nat.lt_irrefl _)
  refine wpAny_bind (wpAny_holding (wpAny_call_entry slot_list_sort ⟨_, hoL, rfl⟩ entry_list_sort (list_sort_strs (s := { s with heap := h'.push (seqObj "list" vs.toArray 0), drawn := dr, toks := tk }) hoL hS (by exact om254 hl hlen) fun out a1 => ⟨_, rfl, ?_⟩) (args_list_sort _)))
  have hold : ∀ b o, s.heap.get? b = some o → (sortedHeap (h'.push (seqObj "list" vs.toArray 0)) h'.objs.size vs out).get? b = some o := fun b o e => by
    have h1 := hk b o e
    have h2 := Heap.lt_size h1
    rw [sortedHeap_old (Nat.ne_of_lt h2) (by rw [Heap.size_push]; exact Nat.lt_succ_of_lt h2)]
    exact Heap.get?_push_of_some _ h1
  obtain ⟨e, he⟩ := sortedHeap_at (out := out) hoL
  exact wpAny_pure ⟨_, rfl, hp.madeAt (tk := tk) (dr := dr) R hold hnone ⟨out, ⟨e, he⟩, strs_vrs (hsame ▸ a1)⟩⟩

theorem sorted_sound (hA : AOK C A d) (R : C.Rel σ g s.heap) {v : PV} {x : Value} {ss : List Str} (hv : C.VR g s.heap v x) (he : sortArg σ v = some ss) (hl : ss.length < sortMost)
    (hp : PostO C σ g s (some (.f (.list ((sortS ss).map .str)))) Q) :
    wpAny (model C.prog C.w) A (call (.builtin "sorted") [x]) Q E s := by
  have h64 : sortMost ≤ 100 := by decide
  have dict : ∀ {a : Addr} {kvs : List (Str × Value)} {r : List (Str × PV)}, (r.map (·.1)) = ss → a ≠ sysModules → s.heap.DictOf (strKind C.prog C.w) a kvs → C.VRd g s.heap r kvs → wpAny (model C.prog C.w) A (call (.builtin "sorted") [.ref a]) Q E s := by
    rintro a kvs r rfl hm h1 hr
    obtain ⟨ep, hd⟩ := h1.dictAt
    have h4 : kvs.length = (r.map fun kv => PV.str kv.1).length := by rw [List.length_map, hr.length]
    have h5 : (r.map fun kv => PV.str kv.1).length = (r.map (·.1)).length := by simp
    refine sorted_tail R hl (fun R' hR' => ?_) hp
    refine PySem.W.kdu_collect (PySem.W.kdl_dict (ep := ep) (kvs := kvs) (by simpa using hm)) hA.hand hd (by rw [h4, h5, sizeLine_eq]; exact om252 h64 hl) fun h' tk acc hk hi => hR' _ s.drawn _ _ _ hk ?_ (.refl _)
    rw [h4] at hi
    refine vrs_strs (C := C) (g := g) (h := s.heap) (vrs_of_items hi fun i z u h1 h2 => by obtain ⟨k, y, h3, h5⟩ := h1; exact vrd_keys hr h3 h5 h2) ?_
    exact strsOf_keys r
  have hd := deref_sound R hv
  have he : sortD (deref σ v) = some ss := he
  generalize deref σ v = w at hd he
  cases w with
  | dct l => obtain ⟨a, kvs, rfl, hm, hl', hr⟩ := hd; exact dict (Option.some.inj he) hm hl' hr
  | _ => cases he
end Mine

set_option autoImplicit false
set_option backward.match.sparseCases true
set_option linter.unusedVariables false
namespace Mine
open PySem PyProof.Rows PySem.SeqAt

variable {C : Fix} {σ : AH} {g g' : Cfg} {h h' : Heap} {s s' : Shared} {own : Addr → Prop} {A : Around} {d : Nat}
  {Q : Value → Shared → Prop} {E : Value → Shared → Prop}

theorem dict_sound (hA : AOK C A d) (R : C.Rel σ g s.heap) {v : PV} {x : Value} (hv : C.VR g s.heap v x) (hp : PostO C σ g s (dictD (deref σ v)) Q) :
    wpAny (model C.prog C.w) A (call (.type "dict") [x]) Q E s := by
  have hd := deref_sound R hv
  generalize deref σ v = w at hd hp
  cases w with
  | dct r =>
    refine byC fun hZ => ?_
    obtain ⟨a, kvs, rfl, hm, h1, hr⟩ := hd
    refine hZ ?_; clear hZ
    have hp := PostO.ite hp
    have hs' := hr.length
    refine kt_call_dict (by simpa using hm) h1 (by have := small_le hp.1; rw [← hs', sizeLine_eq]; exact om250 this) fun h' h2 h3 => ?_
    have hk : ∀ b o, s.heap.get? b = some o → h'.get? b = some o := fun b o e => by
      rw [h3.2 b (Nat.ne_of_lt (Heap.lt_size e))]; exact Heap.get?_push_of_some _ e
    exact hp.2.madeAt (tk := s.toks) R hk (get?_size _) ⟨kvs, h2, VRd_kept (C := C) (.of_all hk) hr⟩
  | _ => exact hp.elim

noncomputable def BI.callee : BI → Value
  | .len => .builtin "len" | .sorted => .builtin "sorted" | .tuple => .type "tuple" | .dict => .type "dict" | .range => .type "range" | .isinst _ => .builtin "isinstance"
  | .list => .type "list" | .int => .type "int" | .abs => .builtin "abs"
noncomputable def BI.more : BI → List Value
  | .isinst t => [t.val]
  | _ => []

theorem one_vr {args : List PV} {xs : List Value} {v : PV} (e : one args = some v) (hv : C.VRs g h args xs) : ∃ x, xs = [x] ∧ C.VR g h v x := by
  rcases args with _ | ⟨a, _ | ⟨b, l⟩⟩
  · cases e
  · cases e
    cases hv with | cons h1 h2 => cases h2; exact ⟨_, rfl, h1⟩
  · cases e
theorem bi_sound (K : C.OK) (hA : AOK C A d) (R : C.Rel σ g s.heap) {b : BI} {args : List PV} {xs : List Value} (hv : C.VRs g s.heap args xs) (hp : PostO C σ g s (biP σ b args) Q) :
    wpAny (model C.prog C.w) A (call b.callee (xs ++ b.more)) Q E s := by
  cases b with
  | len =>
    refine byC fun hZ => ?_
    obtain ⟨v, e, hp⟩ := PostO.bind hp
    obtain ⟨x, rfl, h1⟩ := one_vr e hv
    obtain ⟨n, h3, hp⟩ := hp.bind
    refine hZ ?_; clear hZ
    have hp := hp.ite
    exact len_sound R h1 h3 (small_le hp.1) fun t tk => hp.2.val R (.int ..)
  | sorted =>
    refine byC fun hZ => ?_
    obtain ⟨v, e, hp⟩ := PostO.bind hp
    obtain ⟨x, rfl, h1⟩ := one_vr e hv
    obtain ⟨n, h3, hp⟩ := hp.bind
    refine hZ ?_; clear hZ
    have hp := hp.ite
    exact sorted_sound hA R h1 h3 hp.1 hp.2
  | tuple =>
    refine byC fun hZ => ?_
    obtain ⟨v, e, hp⟩ := PostO.bind hp
    obtain ⟨x, rfl, h1⟩ := one_vr e hv
    obtain ⟨n, h3, hp⟩ := hp.bind
    refine hZ ?_; clear hZ
    have hp := hp.ite
    exact tuple_sound R h1 h3 (small_le hp.1) hp.2
  | dict =>
    refine byC fun hZ => ?_
    obtain ⟨v, e, hp⟩ := PostO.bind hp
    obtain ⟨x, rfl, h1⟩ := one_vr e hv
    refine hZ ?_; clear hZ
    exact dict_sound hA R h1 hp
  | range =>
    refine byC fun hZ => ?_
    obtain ⟨v, e, hp⟩ := PostO.bind hp
    obtain ⟨x, rfl, h1⟩ := one_vr e hv
    obtain ⟨n, h3, hp⟩ := hp.bind
    obtain ⟨t, rfl⟩ := int_vr h3 h1
    refine hZ ?_; clear hZ
    have hp := hp.ite
    exact call_range_1 (hp.2.push R (.rng (.inr rfl) ⟨by decide, hp.1, _, _, _, IsRange.new ..⟩))
  | list =>
    refine byC fun hZ => ?_
    obtain ⟨v, e, hp⟩ := PostO.bind hp
    obtain ⟨x, rfl, h1⟩ := one_vr e hv
    obtain ⟨l, h3, hp⟩ := hp.bind
    refine hZ ?_; clear hZ
    have hp := hp.ite
    exact list_sound hA R (deref_sound R h1) h3 (small_le hp.1) hp.2
  | int =>
    refine byC fun hZ => ?_
    obtain ⟨v, e, hp⟩ := PostO.bind hp
    obtain ⟨x, rfl, h1⟩ := one_vr e hv
    obtain ⟨b, h3, hp⟩ := hp.bind
    refine hZ ?_; clear hZ
    rw [boolOf_eq h3] at h1
    cases (show x = .bool b from VR_inv h1)
    exact call_int_bool (hp.val R (.int ..))
  | abs =>
    refine byC fun hZ => ?_
    obtain ⟨v, e, hp⟩ := PostO.bind hp
    obtain ⟨x, rfl, h1⟩ := one_vr e hv
    obtain ⟨n, h3, hp⟩ := hp.bind
    obtain ⟨t, rfl⟩ := int_vr h3 h1
    refine hZ ?_; clear hZ
    refine call_abs_int fun u tk => ?_
    have := hp.val (tk := tk) R (x := .int _ u) (.int _ u)
    have e : (if n < 0 then -n else n) = (n.natAbs : Int) := by split <;> (first | exact om256 (by assumption) | exact om257 (by assumption))
    rw [e]; exact this
  | isinst t =>
    refine byC fun hZ => ?_
    obtain ⟨v, e, hp⟩ := PostO.bind hp
    obtain ⟨x, rfl, h1⟩ := one_vr e hv
    refine hZ ?_; clear hZ
    cases ht : isTy σ t v with
    | none => rw [ht] at hp; exact hp.elim
    | some q => rw [ht] at hp; exact isinst_sound R h1 ht fun tk => hp.val R (.bool ..)
end Mine

set_option autoImplicit false
set_option backward.match.sparseCases true
set_option linter.unusedVariables false
namespace Mine
open PySem PyProof.Rows PySem.SeqAt

variable {C : Fix} {σ σ' : AH} {g g' : Cfg} {h h' : Heap} {s s' : Shared} {own : Addr → Prop} {A : Around} {d : Nat}
  {Q : Value → Shared → Prop} {E : Value → Shared → Prop}

theorem vrs_but {a : Addr} (hf : ¬ g.Φ a) (hk : ∀ b o, b ≠ a → h.get? b = some o → h'.get? b = some o) {v : List PV} {x : List Value} (hv : C.VRs g h v x) : C.VRs g h' v x :=
  hv.mono (List.prefix_refl _) (fun _ q => q) fun b o hb e => hk b o (fun q => hf (q ▸ hb)) e
theorem vr_but {a : Addr} (hf : ¬ g.Φ a) (hk : ∀ b o, b ≠ a → h.get? b = some o → h'.get? b = some o) {v : PV} {x : Value} (hv : C.VR g h v x) : C.VR g h' v x :=
  hv.mono (List.prefix_refl _) (fun _ q => q) fun b o hb e => hk b o (fun q => hf (q ▸ hb)) e
theorem vrd_but {a : Addr} (hf : ¬ g.Φ a) (hk : ∀ b o, b ≠ a → h.get? b = some o → h'.get? b = some o) {v : List (Str × PV)} {x : List (Str × Value)} (hv : C.VRd g h v x) : C.VRd g h' v x :=
  hv.mono (List.prefix_refl _) (fun _ q => q) fun b o hb e => hk b o (fun q => hf (q ▸ hb)) e
theorem set_ext {a : Addr} {tk : Nat} (hm : a ∈ g.μ) (hl : ¬ g.lk a) (hk : ∀ b o, b ≠ a → s.heap.get? b = some o → h'.get? b = some o) (ha : (h'.get? a).isSome = true) : Ext own g s g { s with heap := h', toks := tk } :=
  Ext.heap (fun b o e hb _ => hk b o (fun q => by subst q; exact hb.elim (fun q => q hm) hl) e) fun b hb => by
    by_cases hba : b = a
    · subst hba; exact ha
    · obtain ⟨o, ho⟩ := Option.isSome_iff_exists.mp hb; rw [hk b o hba ho]; rfl

noncomputable def PostS (C : Fix) (g : Cfg) (s : Shared) (r : Option (PV × AH)) (Q : Value → Shared → Prop) : Prop := match r with
  | none => False
  | some (v, σ') => ∀ g' s' y, Ext noOwn g s g' s' → C.Rel σ' g' s'.heap → C.VR g' s'.heap v y → Q y s'

theorem PostS.list {i : Nat} {a : Addr} {l : List PV} {v : PV} {y : Value} {tk : Nat} {vs : Array Value} (R : C.Rel σ g s.heap) (hi : g.μ[i]? = some a) (hl : ¬ g.lk a) (hp : PostS C g s (some (v, σ.set i (.list false l))) Q)
    (hk : ∀ b o, b ≠ a → s.heap.get? b = some o → h'.get? b = some o) (hx : IsListX h' a vs) (hv : C.VRs g s.heap l vs.toList) (hy : C.VR g s.heap v y) : Q y { s with heap := h', toks := tk } := by
  have hf := R.rel.disj a (List.mem_of_getElem? hi)
  refine hp g _ y (set_ext (List.mem_of_getElem? hi) hl hk (let ⟨n, e⟩ := hx; isSome_of e)) (R.set hi hk ⟨⟨fun q => (nomatch q), fun q => (hl q).elim⟩, vs, hx, vrs_but (C := C) hf hk hv⟩) (vr_but (C := C) hf hk hy)
theorem PostS.same {v : PV} {y : Value} {tk : Nat} (R : C.Rel σ g s.heap) (hp : PostS C g s (some (v, σ)) Q) (hy : C.VR g s.heap v y) : Q y { s with toks := tk } :=
  hp g _ y (Ext.toks (Ext.refl g s)) R hy

theorem updX {a : Addr} {vs : Array Value} {n : Nat} {f : Array Value → Array Value} (hx : h.get? a = some { cls := .type "list", dict := none, data := .seq vs n, slots := #[] }) : IsListX (h.update a (Obj.mapSeq f)) a (f vs) := by
  have e := Heap.get?_update_self (Obj.mapSeq f) hx rfl
  exact ⟨_, e⟩
theorem upd_but {a : Addr} {f : Obj → Obj} : ∀ b o, b ≠ a → h.get? b = some o → (h.update a f).get? b = some o := fun b o hb e => (Heap.get?_update_other _ _ (Ne.symm hb)).trans e

noncomputable def BM.id : BM → String
  | .append => "list.append" | .pop => "dict.pop"

theorem tracked_list (R : C.Rel σ g s.heap) {i : Nat} {a : Addr} {l : List PV} (ho : σ[i]? = some (.list false l)) (hi : g.μ[i]? = some a) : ¬ g.lk a ∧ ∃ vs n, s.heap.get? a = some { cls := .type "list", dict := none, data := .seq vs n, slots := #[] } ∧ C.VRs g s.heap l vs.toList := by
  obtain ⟨h1, vs, ⟨n, h2⟩, h3⟩ := R.rel.objs i _ a ho hi
  exact ⟨fun q => (nomatch h1.mpr q), vs, n, h2, h3⟩
theorem tracked_dict (R : C.Rel σ g s.heap) {i : Nat} {a : Addr} {l : List (Str × PV)} (ho : σ[i]? = some (.dict false l)) (hi : g.μ[i]? = some a) : ¬ g.lk a ∧ ∃ kvs, s.heap.DictOf (strKind C.prog C.w) a kvs ∧ C.VRd g s.heap l kvs := by
  obtain ⟨h1, vs, h2, h3⟩ := R.rel.objs i _ a ho hi
  exact ⟨fun q => (nomatch h1.mpr q), vs, h2, h3⟩

theorem PostS.bind {α : Type} {o : Option α} {f : α → Option (PV × AH)} (hp : PostS C g s (o.bind f) Q) : ∃ x, o = some x ∧ PostS C g s (f x) Q := bind_elim (fun o => PostS C g s o Q) id hp
theorem openL_eq {i : Nat} {l : List PV} (h : openL σ i = some l) : σ[i]? = some (.list false l) := by
  unfold openL at h
  generalize σ[i]? = o at h ⊢
  rcases o with _ | (⟨_ | _, _⟩ | _) <;> cases h
  rfl
theorem openD_eq {i : Nat} {l : List (Str × PV)} (h : openD σ i = some l) : σ[i]? = some (.dict false l) := by
  unfold openD at h
  generalize σ[i]? = o at h ⊢
  rcases o with _ | (_ | ⟨_ | _, _⟩) <;> cases h
  rfl
theorem bm_sound (hA : AOK C A d) (R : C.Rel σ g s.heap) {m : BM} {o : PV} {args : List PV} {x : Value} {xs : List Value} (hx : C.VR g s.heap o x) (hv : C.VRs g s.heap args xs) (hp : PostS C g s (bmP σ m o args) Q) :
    wpAny (model C.prog C.w) A (call (.builtin m.id) (x :: xs)) Q E s := by
  cases m with
  | append =>
    refine byC fun hZ => ?_
    obtain ⟨v, e, hp⟩ := PostS.bind hp
    obtain ⟨y, rfl, h1⟩ := one_vr e hv
    obtain ⟨i, e, hp⟩ := hp.bind
    refine hZ ?_; clear hZ
    rw [refOf_eq e] at hx
    refine byC fun hZ => ?_
    obtain ⟨a, rfl, hi⟩ := VR_inv hx
    obtain ⟨l, e, hp⟩ := hp.bind
    obtain ⟨hl, vs, n, h3, h4⟩ := tracked_list R (openL_eq e) hi
    refine hZ ?_; clear hZ
    have h5 := h4.size
    split at hp
    · rename_i hs
      have hs := small_le hs
      refine wpAny_list_append_plain ⟨n, h3⟩ (fun h' hx' hsb => ?_) (by rw [h5, sizeLine_eq]; exact om250 hs)
      refine hp.list (tk := s.toks) R hi hl (fun b ob hb e => by rw [hsb.2 b hb]; exact e) (let ⟨n', e⟩ := hx'; ⟨n', e⟩) ?_ .none
      rw [Array.toList_push]; exact h4.append (.cons h1 .nil)
    · exact hp.elim
  | pop =>
    refine byC fun hZ => ?_
    obtain ⟨v, e, hp⟩ := PostS.bind hp
    obtain ⟨y, rfl, h1⟩ := one_vr e hv
    obtain ⟨k, e1, hp⟩ := hp.bind
    obtain ⟨t, rfl⟩ := str_vr e1 h1
    obtain ⟨i, e2, hp⟩ := hp.bind
    rw [refOf_eq e2] at hx
    obtain ⟨a, rfl, hi⟩ := VR_inv hx
    obtain ⟨l, e3, hp⟩ := hp.bind
    obtain ⟨hl, kvs, h3, h4⟩ := tracked_dict R (openD_eq e3) hi
    refine hZ ?_; clear hZ
    have h5 := h4.length
    split at hp
    · rename_i hs
      have hs := small_le hs
      have h7 := h4.get k
      cases hq : dget l k with
      | none => rw [hq] at hp; exact hp.elim
      | some u =>
        rw [hq] at h7 hp
        obtain ⟨x, h8, h9⟩ := h7
        refine call_meetsIn PySem.F.slot_dict_pop h3.typeIs PySem.F.entry_dict_pop (PySem.F.args_dict_pop_2 _ _) (meets_dict_pop_there (strKind C.prog C.w) a (strKind_is C.prog C.w k t) [] (.inl rfl) rfl) ⟨kvs, x, h3, by rw [← h5, sizeLine_eq]; exact om250 hs, h8, fun h' hd hsb => ?_⟩
        have hk' : ∀ b o, b ≠ a → s.heap.get? b = some o → h'.get? b = some o := fun b o hb e => by rw [hsb.2 b hb]; exact e
        have hf := R.rel.disj a (List.mem_of_getElem? hi)
        refine hp g _ x (set_ext (List.mem_of_getElem? hi) hl hk' (let ⟨o, es, ep, e, _⟩ := hd; isSome_of e)) (R.set hi hk' ⟨⟨fun q => (nomatch q), fun q => (hl q).elim⟩, _, hd, ?_⟩) (vr_but (C := C) hf hk' h9)
        exact (vrd_but (C := C) hf hk' h4).del
    · exact hp.elim
end Mine

set_option autoImplicit false
set_option backward.match.sparseCases true
set_option linter.unusedVariables false
namespace Mine
open PySem PyProof.Rows PySem.SeqAt

variable {C : Fix} {σ σ' : AH} {g g' : Cfg} {h h' : Heap} {s s' : Shared} {own : Addr → Prop} {A : Around} {d : Nat}
  {Q : Value → Shared → Prop} {E : Value → Shared → Prop}

inductive HiP (n : Nat) : Value → Option Int → Nat → Prop where
  | none : HiP n .none none n
  | int (b : Nat) (t : Tok) : HiP n (.int b t) (some (b : Int)) (min b n)
theorem HiP.part {n k : Nat} {v : Value} {o : Option Int} (x : HiP n v o k) : IsPart v o := by cases x <;> constructor
theorem adjust_hi {a n k : Nat} {v : Value} {o : Option Int} (x : HiP n v o k) : Builtin.Slice.sliceAdjust (some (a : Int)) o 1 (n : Int) = (((min a n : Nat) : Int), ((k : Nat) : Int)) := by
  unfold Builtin.Slice.sliceAdjust
  have h1 : ¬ ((1 : Int) < 0) := by decide
  have h2 : ¬ ((a : Int) < 0) := by exact om286
  cases x with
  | none => simp only [h1, h2, if_false]; congr 1; exact om300
  | int b t =>
    have h3 : ¬ ((b : Int) < 0) := by exact om286
    simp only [h1, h2, h3, if_false]
    congr 1 <;> exact om300
theorem places_hi (a b : Nat) : Builtin.Slice.slicePlaces (a : Int) (b : Int) 1 = b - a := by
  unfold Builtin.Slice.slicePlaces
  have h1 : (1 : Int) > 0 := by decide
  simp only [h1, if_true, Int.ediv_one]
  split <;> (first | exact om298 | exact om299 (by assumption))
theorem sliceApplied_hi {sl : Addr} {a n k : Nat} {u : Tok} {v : Value} {o : Option Int} {Q : Int × Int × Nat → Shared → Prop} (hs : s.heap.IsSliceOf sl (.int a u) v .none) (x : HiP n v o k) (h : Q (((min a n : Nat) : Int), 1, k - min a n) s) :
    wpAny (model C.prog C.w) A (Builtin.Slice.sliceApplied (.ref sl) (pure (n : Int))) Q E s := by
  refine byC fun hZ => ?_
  obtain ⟨os, hos, hcs, hds⟩ := id hs
  refine hZ ?_; clear hZ
  unfold Builtin.Slice.sliceApplied Builtin.Slice.sliceFields
  refine wpAny_bind (wpAny_bind (wpAny_field hos hds (x := .int a u) rfl (wpAny_bind (wpAny_field hos hds (x := v) rfl (wpAny_bind (wpAny_field hos hds (x := .none) rfl (wpAny_pure ?_)))))))
  refine wpAny_bind (slicePart_none ?_)
  show wpAny _ _ (if ((1 : Int) == 0) = true then _ else _) _ _ s
  rw [if_neg (by decide)]
  have fin : wpAny (model C.prog C.w) A (match Builtin.Slice.sliceAdjust (some (a : Int)) o 1 (n : Int) with | (lo, hi) => pure (lo, (1 : Int), Builtin.Slice.slicePlaces lo hi 1)) Q E s := by
    rw [adjust_hi x]
    show wpAny _ _ (pure (((min a n : Nat) : Int), (1 : Int), Builtin.Slice.slicePlaces ((min a n : Nat) : Int) (k : Int) 1)) _ _ s
    rw [places_hi]
    exact wpAny_pure h
  cases x with
  | none => exact wpAny_bind (slicePart_int (wpAny_bind (slicePart_none (wpAny_bind (wpAny_pure fin)))))
  | int b t => exact wpAny_bind (slicePart_int (wpAny_bind (slicePart_int (wpAny_bind (wpAny_pure fin)))))
theorem pick_hi (xs : Array Value) (a k : Nat) : ((List.range k).filterMap fun (i : Nat) => xs[((a : Int) + (i : Int) * 1).toNat]?).toArray = ((xs.toList.drop a).take k).toArray := by
  have e : (fun (i : Nat) => xs[((a : Int) + (i : Int) * 1).toNat]?) = fun i => xs[a + i]? := by
    funext i
    have : ((a : Int) + (i : Int) * 1).toNat = a + i := by exact om297
    rw [this]
  rw [e]
  have := pick_run xs a k
  rw [List.filterMap_map] at this
  exact congrArg List.toArray this
theorem cut_eq {α : Type} (l : List α) (a b k : Nat) (hk : k = min b l.length) : (l.drop (min a l.length)).take (k - min a l.length) = (l.take b).drop a := by
  subst hk
  apply List.ext_getElem?
  intro i
  rw [List.getElem?_take, List.getElem?_drop, List.getElem?_drop, List.getElem?_take]
  by_cases h : a ≤ l.length
  · rw [Nat.min_eq_left h]
    by_cases h1 : i < min b l.length - a
    · rw [if_pos h1, if_pos (by exact om296 h1)]
    · rw [if_neg h1]
      by_cases h2 : a + i < b
      · rw [if_pos h2, List.getElem?_eq_none (by exact om295 h1 h2)]
      · rw [if_neg h2]
  · rw [Nat.min_eq_right (show l.length ≤ a by exact om294 h), if_neg (by exact om293)]
    by_cases h2 : a + i < b
    · rw [if_pos h2, List.getElem?_eq_none (by exact om292 h)]
    · rw [if_neg h2]

theorem getItem_tuple_cut {t sl : Addr} {items : Array Value} {a b k : Nat} {u : Tok} {v : Value} {o : Option Int} (ht : IsTup s.heap t items) (hs : s.heap.IsSliceOf sl (.int a u) v .none) (x : HiP items.size v o k) (hk : k = min b items.size) (h1 : 1 ≤ a) (h2 : 1 ≤ items.size)
    (h : Q (.ref s.heap.objs.size) { s with heap := s.heap.push { cls := .type "tuple", data := .seq ((items.toList.take b).drop a).toArray } })
    (hsz : items.size ≤ sizeLine) : wpAny (model C.prog C.w) A (getItem (.ref t) (.ref sl)) Q E s := by
  have hdrop : sizeOk (.seq ((items.toList.take b).drop a).toArray) := by
    show ((items.toList.take b).drop a).toArray.size ≤ sizeLine
    rw [List.size_toArray, List.length_drop, List.length_take, Array.length_toList]
    exact om291 hsz
  refine byC fun hZ => ?_
  obtain ⟨os, hos, hcs, hds⟩ := id hs
  refine hZ ?_; clear hZ
  have hTs : s.TypeIs (.ref sl) "slice" := ⟨os, hos, hcs⟩
  unfold getItem
  try with_reducible refine wpAny_holding ?_
  first | refine wpAny_bind (wpAny_pure ?_) | skip
  refine wpAny_bind (wpAny_sequenceKey ht.typeIs (by decide) ?_)
  refine wpAny_bind (wpAny_callSpecial?_slot (name := Str.ofString "__getitem__") ht.typeIs PySem.F.slot_tuple_getitem
    (wpAny_call_entry PySem.F.slot_tuple_getitem ht.typeIs PyProof.Rows.entry_tuple_getitem ?_ (PyProof.Rows.args_tuple_getitem _ _)))
  show wpAny _ _ (Builtin.Tuple.tupleItemsOf (.ref t) >>= _) _ _ s
  refine wpAny_bind (tupleItemsOf_ ht ?_)
  refine wpAny_bind (wpAny_typeOf hTs ?_)
  rw [if_pos (by decide)]
  refine wpAny_bind (sliceApplied_hi hs x ?_)
  have hno : ¬ ((((min a items.size : Nat) : Int) == 0 && (1 : Int) == 1 && (k - min a items.size) == items.size) = true) := by
    have : (((min a items.size : Nat) : Int) == 0) = false := by rw [beq_eq_false_iff_ne]; exact om290 h1 h2
    rw [this]; simp
  show wpAny _ _ (if (((min a items.size : Nat) : Int) == 0 && (1 : Int) == 1 && (k - min a items.size) == items.size) = true then _ else _) _ _ s
  rw [if_neg hno, pick_hi]
  have e : (items.toList.drop (min a items.size)).take (k - min a items.size) = (items.toList.take b).drop a := by
    have := cut_eq items.toList a b k (by rw [Array.length_toList]; exact hk)
    rwa [Array.length_toList] at this
  rw [e]
  first
    | exact wpAny_bind (m := Builtin.Tuple.tupleExact _) (wpAny_newObj_type (wpAny_pure ⟨_, rfl, wpAny_pure h⟩) hdrop)
    | exact wpAny_bind (m := Builtin.Tuple.tupleExact _) (wpAny_newObj_type (wpAny_bind (wpAny_pure (wpAny_pure ⟨_, rfl, wpAny_pure h⟩))) hdrop)
    | exact wpAny_bind (wpAny_bind (m := Builtin.Tuple.tupleExact _) (wpAny_newObj_type (wpAny_pure (wpAny_pure ⟨_, rfl, wpAny_pure h⟩)) hdrop))
    | exact wpAny_bind (wpAny_bind (m := Builtin.Tuple.tupleExact _) (wpAny_newObj_type (wpAny_pure ⟨_, rfl, wpAny_pure h⟩) hdrop))

theorem isTup_of {a : Addr} {vs : Array Value} (x : IsTupX h a vs) : IsTup h a vs := let ⟨n, e⟩ := x; ⟨_, e, rfl, n, rfl⟩

theorem cut_sound (R : C.Rel σ g s.heap) {value lo : Expr} {hi : Option Expr} {pp : Pos} {w : PV} {x v : Value} {a b : Nat} {u : Tok} {o : Option Int} (hd : VRi C g s.heap w x) (hx' : ∀ n, n ≤ 1000000 → ∃ k, HiP n v o k ∧ k = min b n)
    (hp : PostO C σ g s (cutD a b w) Q) :
    wpAny (model C.prog C.w) A (subscriptTail value (.Slice (some lo) hi none pp) x (.ref s.heap.objs.size)) Q E { s with heap := s.heap.push { cls := .type "slice", data := .fields #[.int a u, v, .none] } } := by
  have hk : ∀ b ob, s.heap.get? b = some ob → (s.heap.push { cls := .type "slice", data := .fields #[.int a u, v, .none] }).get? b = some ob := fun b ob e => Heap.get?_push_of_some _ e
  have R1 : C.Rel σ g (s.heap.push { cls := .type "slice", data := .fields #[.int a u, v, .none] }) := R.kept (.of_all hk)
  cases w with
  | tup l =>
    refine byC fun hZ => ?_
    obtain ⟨p, vs, rfl, hl, hv⟩ := hd
    have hp := PostO.ite (C := C) (σ := σ) (g := g) (s := s) (p := (small l.length && decide (1 ≤ a) && decide (1 ≤ l.length)) = true) (o := .v (.tup ((l.take b).drop a))) hp
    obtain ⟨c12, c3⟩ := Bool.and_eq_true_iff.mp hp.1
    obtain ⟨c1, c2⟩ := Bool.and_eq_true_iff.mp c12
    have c1 := small_le c1
    have c2 := of_decide_eq_true c2
    have c3 := of_decide_eq_true c3
    have hsz := hv.size
    obtain ⟨k, q1, q2⟩ := hx' vs.size (by exact om288 c1 hsz)
    refine hZ ?_; clear hZ
    have ht : IsTup (s.heap.push { cls := .type "slice", data := .fields #[.int a u, v, .none] }) p vs := (isTup_of hl).keeps hk
    refine tail_any (s := { s with heap := s.heap.push { cls := .type "slice", data := .fields #[.int a u, v, .none] } }) ht.typeIs PySem.F.slot_tuple_getitem.lookup (getItem_tuple_cut (b := b) ht (Heap.IsSliceOf.new ..) q1 q2 c2 (by exact om289 c3 hsz) ?_ (by rw [sizeLine_eq]; exact om287 c1 hsz)) rfl
    have hk2 : ∀ b' ob, s.heap.get? b' = some ob → ((s.heap.push { cls := .type "slice", data := .fields #[.int a u, v, .none] }).push { cls := .type "tuple", data := .seq ((vs.toList.take b).drop a).toArray }).get? b' = some ob := fun b' ob e => Heap.get?_push_of_some _ (hk b' ob e)
    refine hp.2.newAt (tk := s.toks) R hk2 (Heap.get?_none_of_le (by rw [Heap.size_push]; exact Nat.le_succ _)) (isSome_of (Heap.get?_push_size _ rfl)) (.tup (.inr rfl) ⟨_, Heap.get?_push_size _ rfl⟩ (VRs_frz (C := C) (VRs_kept (C := C) (.of_all hk2) ?_)))
    exact (hv.take b).drop a
  | lst l =>
    refine byC fun hZ => ?_
    obtain ⟨p, vs, rfl, hl, hv⟩ := hd
    have hp := PostO.ite hp
    have c1 := small_le hp.1
    have hsz := hv.size
    obtain ⟨k, q1, q2⟩ := hx' vs.size (by exact om288 c1 hsz)
    refine hZ ?_; clear hZ
    have ht : (s.heap.push { cls := .type "slice", data := .fields #[.int a u, v, .none] }).IsList p vs := (isList_of hl).push _
    refine tail_any (s := { s with heap := s.heap.push { cls := .type "slice", data := .fields #[.int a u, v, .none] } }) ht.typeIs slot_list_getitem.lookup (wpAny_getItem_list_slice ht (Heap.IsSliceOf.new ..) (.int a u) q1.part .none (by simp) ?_ (by rw [sizeLine_eq]; exact om287 c1 hsz)) rfl
    rw [PySem.W.kms_pick_eq]
    have e : PySem.W.kms_pick vs.toList (some (a : Int)) o = (vs.toList.take b).drop a := by
      have := cut_eq vs.toList a b k (by rw [Array.length_toList]; exact q2)
      rw [← this]
      unfold PySem.W.kms_pick
      have e1 : PySem.W.kms_lo (some (a : Int)) vs.toList.length = min a vs.toList.length := by
        show (if (a : Int) < 0 then vs.toList.length - (-(a : Int)).toNat else min (a : Int).toNat vs.toList.length) = _
        rw [if_neg (by exact om286)]; rfl
      have e2 : PySem.W.kms_hi o vs.toList.length = k := by
        cases q1 with
        | none => exact Array.length_toList
        | int b' t =>
          show (if (b' : Int) < 0 then vs.toList.length - (-(b' : Int)).toNat else min (b' : Int).toNat vs.toList.length) = _
          rw [if_neg (by exact om286), Array.length_toList]; rfl
      rw [e1, e2]
    rw [e]
    have hk2 : ∀ b' ob, s.heap.get? b' = some ob → ((s.heap.push { cls := .type "slice", data := .fields #[.int a u, v, .none] }).push { cls := .type "list", data := .seq ((vs.toList.take b).drop a).toArray }).get? b' = some ob := fun b' ob e => Heap.get?_push_of_some _ (hk b' ob e)
    refine hp.2.madeAt (tk := s.toks) R hk2 (Heap.get?_none_of_le (by rw [Heap.size_push]; exact Nat.le_succ _)) ⟨_, ⟨_, Heap.get?_push_size _ rfl⟩, VRs_kept (C := C) (.of_all hk2) ?_⟩
    exact (hv.take b).drop a
  | _ => exact hp.elim

theorem sliceApplied_to {sl : Addr} {j n : Nat} {u : Tok} {Q : Int × Int × Nat → Shared → Prop} (hs : s.heap.IsSliceOf sl .none (.int j u) .none) (h : Q (0, 1, min j n) s) :
    wpAny (model C.prog C.w) A (Builtin.Slice.sliceApplied (.ref sl) (pure (n : Int))) Q E s := by
  refine byC fun hZ => ?_
  obtain ⟨os, hos, hcs, hds⟩ := id hs
  refine hZ ?_; clear hZ
  unfold Builtin.Slice.sliceApplied Builtin.Slice.sliceFields
  refine wpAny_bind (wpAny_bind (wpAny_field hos hds (x := .none) rfl (wpAny_bind (wpAny_field hos hds (x := .int j u) rfl (wpAny_bind (wpAny_field hos hds (x := .none) rfl (wpAny_pure ?_)))))))
  refine wpAny_bind (slicePart_none ?_)
  show wpAny _ _ (if ((1 : Int) == 0) = true then _ else _) _ _ s
  rw [if_neg (by decide)]
  have ea : Builtin.Slice.sliceAdjust none (some (j : Int)) 1 (n : Int) = (((0 : Nat) : Int), ((min j n : Nat) : Int)) := by
    unfold Builtin.Slice.sliceAdjust
    have h1 : ¬ ((1 : Int) < 0) := by decide
    have h3 : ¬ ((j : Int) < 0) := by exact om286
    simp only [h1, h3, if_false]
    congr 1; exact om300
  have fin : wpAny (model C.prog C.w) A (match Builtin.Slice.sliceAdjust none (some (j : Int)) 1 (n : Int) with | (lo, hi) => pure (lo, (1 : Int), Builtin.Slice.slicePlaces lo hi 1)) Q E s := by
    rw [ea]
    show wpAny _ _ (pure (((0 : Nat) : Int), (1 : Int), Builtin.Slice.slicePlaces ((0 : Nat) : Int) ((min j n : Nat) : Int) 1)) _ _ s
    rw [places_hi]
    exact wpAny_pure h
  exact wpAny_bind (slicePart_none (wpAny_bind (slicePart_int (wpAny_bind (wpAny_pure fin)))))
theorem getItem_tuple_to {t sl : Addr} {items : Array Value} {j : Nat} {u : Tok} (ht : IsTup s.heap t items) (hs : s.heap.IsSliceOf sl .none (.int j u) .none) (h1 : j < items.size)
    (h : Q (.ref s.heap.objs.size) { s with heap := s.heap.push { cls := .type "tuple", data := .seq (items.toList.take j).toArray } })
    (hsz : items.size ≤ sizeLine) : wpAny (model C.prog C.w) A (getItem (.ref t) (.ref sl)) Q E s := by
  have hdrop : sizeOk (.seq (items.toList.take j).toArray) := by
    show (items.toList.take j).toArray.size ≤ sizeLine
    rw [List.size_toArray, List.length_take, Array.length_toList]
    exact Nat.le_trans (Nat.min_le_right _ _) hsz
  refine byC fun hZ => ?_
  obtain ⟨os, hos, hcs, hds⟩ := id hs
  refine hZ ?_; clear hZ
  have hTs : s.TypeIs (.ref sl) "slice" := ⟨os, hos, hcs⟩
  unfold getItem
  try with_reducible refine wpAny_holding ?_
  first | refine wpAny_bind (wpAny_pure ?_) | skip
  refine wpAny_bind (wpAny_sequenceKey ht.typeIs (by decide) ?_)
  refine wpAny_bind (wpAny_callSpecial?_slot (name := Str.ofString "__getitem__") ht.typeIs PySem.F.slot_tuple_getitem
    (wpAny_call_entry PySem.F.slot_tuple_getitem ht.typeIs PyProof.Rows.entry_tuple_getitem ?_ (PyProof.Rows.args_tuple_getitem _ _)))
  show wpAny _ _ (Builtin.Tuple.tupleItemsOf (.ref t) >>= _) _ _ s
  refine wpAny_bind (tupleItemsOf_ ht ?_)
  refine wpAny_bind (wpAny_typeOf hTs ?_)
  rw [if_pos (by decide)]
  refine wpAny_bind (sliceApplied_to hs ?_)
  have hm : min j items.size = j := Nat.min_eq_left (Nat.le_of_lt h1)
  rw [hm]
  have hno : ¬ ((((0 : Nat) : Int) == 0 && (1 : Int) == 1 && j == items.size) = true) := by
    have : (j == items.size) = false := by rw [beq_eq_false_iff_ne]; exact Nat.ne_of_lt h1
    rw [this]; simp
  show wpAny _ _ (if (((0 : Nat) : Int) == 0 && (1 : Int) == 1 && j == items.size) = true then _ else _) _ _ s
  rw [if_neg hno]
  have ep := pick_hi items 0 j
  rw [List.drop_zero] at ep
  have ep : ((List.range j).filterMap fun (k : Nat) => items[((0 : Int) + (k : Int) * 1).toNat]?).toArray = (items.toList.take j).toArray := ep
  rw [ep]
  first
    | exact wpAny_bind (m := Builtin.Tuple.tupleExact _) (wpAny_newObj_type (wpAny_pure ⟨_, rfl, wpAny_pure h⟩) hdrop)
    | exact wpAny_bind (m := Builtin.Tuple.tupleExact _) (wpAny_newObj_type (wpAny_bind (wpAny_pure (wpAny_pure ⟨_, rfl, wpAny_pure h⟩))) hdrop)
    | exact wpAny_bind (wpAny_bind (m := Builtin.Tuple.tupleExact _) (wpAny_newObj_type (wpAny_pure (wpAny_pure ⟨_, rfl, wpAny_pure h⟩)) hdrop))
    | exact wpAny_bind (wpAny_bind (m := Builtin.Tuple.tupleExact _) (wpAny_newObj_type (wpAny_pure ⟨_, rfl, wpAny_pure h⟩) hdrop))
theorem cutT_sound (R : C.Rel σ g s.heap) {value : Expr} {hi : Expr} {pp : Pos} {w : PV} {x : Value} {j : Nat} {u : Tok} (hd : VRi C g s.heap w x) (hp : PostO C σ g s (cutTD j w) Q) :
    wpAny (model C.prog C.w) A (subscriptTail value (.Slice none (some hi) none pp) x (.ref s.heap.objs.size)) Q E { s with heap := s.heap.push { cls := .type "slice", data := .fields #[.none, .int j u, .none] } } := by
  have hk : ∀ b ob, s.heap.get? b = some ob → (s.heap.push { cls := .type "slice", data := .fields #[.none, .int j u, .none] }).get? b = some ob := fun b ob e => Heap.get?_push_of_some _ e
  cases w with
  | tup l =>
    refine byC fun hZ => ?_
    obtain ⟨p, vs, rfl, hl, hv⟩ := hd
    have hp := PostO.ite (C := C) (σ := σ) (g := g) (s := s) (p := (small l.length && decide (j < l.length)) = true) (o := .v (.tup (l.take j))) hp
    obtain ⟨c1, c2⟩ := Bool.and_eq_true_iff.mp hp.1
    have c1 := small_le c1
    have c2 := of_decide_eq_true c2
    have hsz := hv.size
    refine hZ ?_; clear hZ
    have ht : IsTup (s.heap.push { cls := .type "slice", data := .fields #[.none, .int j u, .none] }) p vs := (isTup_of hl).keeps hk
    refine tail_any (s := { s with heap := s.heap.push { cls := .type "slice", data := .fields #[.none, .int j u, .none] } }) ht.typeIs PySem.F.slot_tuple_getitem.lookup (getItem_tuple_to ht (Heap.IsSliceOf.new ..) (by rw [hsz]; exact c2) ?_ (by rw [sizeLine_eq]; exact om287 c1 hsz)) rfl
    have hk2 : ∀ b' ob, s.heap.get? b' = some ob → ((s.heap.push { cls := .type "slice", data := .fields #[.none, .int j u, .none] }).push { cls := .type "tuple", data := .seq (vs.toList.take j).toArray }).get? b' = some ob := fun b' ob e => Heap.get?_push_of_some _ (hk b' ob e)
    refine hp.2.newAt (tk := s.toks) R hk2 (Heap.get?_none_of_le (by rw [Heap.size_push]; exact Nat.le_succ _)) (isSome_of (Heap.get?_push_size _ rfl)) (.tup (.inr rfl) ⟨_, Heap.get?_push_size _ rfl⟩ (VRs_frz (C := C) (VRs_kept (C := C) (.of_all hk2) ?_)))
    exact hv.take j
  | _ => exact hp.elim
end Mine

set_option autoImplicit false
set_option backward.match.sparseCases true
set_option linter.unusedVariables false
namespace Mine
open PySem PyProof.Rows PySem.SeqAt

noncomputable def isCellK : Option NameKind → Bool
  | some .cell | some .free => true
  | _ => false

noncomputable def frs (C : Fix) : List Addr := C.fs.filterMap (·.frame)
noncomputable def HeadF (C : Fix) (env : Env) : Prop := ∃ e0, C.fs.head? = some e0 ∧ env.frame = e0.frame
noncomputable def StkR (C : Fix) (env : Env) (g : Cfg) (h : Heap) : Prop := HeadF C env ∧ ∀ L ∈ frs C, L ≠ env.locals → (∀ x, env.cells.lookup x ≠ some L) ∧ L ∉ g.μ ∧ ¬ g.Φ L ∧ ∃ o, h.get? L = some o ∧ dD o = true
noncomputable def StkC (C : Fix) (g : Cfg) (h : Heap) : Prop := ∀ L ∈ frs C, L ∉ g.μ ∧ ¬ g.Φ L ∧ ∃ o, h.get? L = some o ∧ dD o = true

structure FR (C : Fix) (nm : NM) (vm : VM) (env : Env) (ρ : List PV) (g : Cfg) (h : Heap) : Prop where
  kind : env.scope.kind = .function
  names : env.scope.names = nm
  glob : env.globals = mainGlobals
  blt : env.builtins = builtinsNs
  inj : ∀ x y i, vm.lookup x = some i → vm.lookup y = some i → x = y
  ns : ∃ m, h.Ns env.locals m ∧ ∀ x i v, vm.lookup x = some i → nm.lookup x = some .local → ρ[i]? = some v → v ≠ .undef → ∃ y, m x = some y ∧ C.VR g h v y
  cl : ∀ x i, vm.lookup x = some i → isCellK (nm.lookup x) = true → ∃ c o, env.cells.lookup x = some c ∧ h.IsCell c o ∧ ∀ v, ρ[i]? = some v → v ≠ .undef → ∃ y, o = some y ∧ C.VR g h v y
  offL : env.locals ∉ g.μ ∧ ¬ g.Φ env.locals
  offC : ∀ x c, env.cells.lookup x = some c → c ∉ g.μ ∧ ¬ g.Φ c
  cliv : ∀ x c, env.cells.lookup x = some c → ∃ o, h.IsCell c o
  apart : ∀ x y c, env.cells.lookup x = some c → env.cells.lookup y = some c → x = y
  stk : StkR C env g h

noncomputable def ownOf (env : Env) : Addr → Prop := fun b => b = env.locals ∨ ∃ x, env.cells.lookup x = some b

variable {C : Fix} {c : Cx} {σ σ' : AH} {g g' : Cfg} {h h' : Heap} {s s' : Shared} {own : Addr → Prop} {A : Around} {d : Nat} {nm : NM} {vm : VM} {env : Env} {ρ : List PV}
  {Q : Value → Shared → Prop} {E : Value → Shared → Prop}

theorem Heap.Ns.live {h : Heap} {a : Addr} {m : Str → Option Value} (x : h.Ns a m) : ∃ o, h.get? a = some o := by
  obtain ⟨o, es, ep, ho, _⟩ := x; exact ⟨o, ho⟩

theorem StkC.ext (S : StkC C g s.heap) (e : Ext own g s g' s') (ho : ∀ L ∈ frs C, ¬ own L) : StkC C g' s'.heap := fun L hL => by
  refine byC fun hZ => ?_
  obtain ⟨h1, h2, o, h3, h4⟩ := S L hL
  obtain ⟨o', h5, h6⟩ := e.keep L o h3 h1 (ho L hL)
  refine hZ ?_; clear hZ
  exact ⟨e.notμ h3 h1, e.notΦ h3 h2, o', h5, h6.dD h4⟩
theorem StkR.ext (S : StkR C env g s.heap) (e : Ext own g s g' s') (ho : ∀ L ∈ frs C, L ≠ env.locals → ¬ own L) : StkR C env g' s'.heap := ⟨S.1, fun L hL hn => by
  refine byC fun hZ => ?_
  obtain ⟨h0, h1, h2, o, h3, h4⟩ := S.2 L hL hn
  obtain ⟨o', h5, h6⟩ := e.keep L o h3 h1 (ho L hL hn)
  refine hZ ?_; clear hZ
  exact ⟨h0, e.notμ h3 h1, e.notΦ h3 h2, o', h5, h6.dD h4⟩⟩
theorem StkR.but {a : Addr} (S : StkR C env g h) (hk : ∀ b o, b ≠ a → h.get? b = some o → h'.get? b = some o) (ha : ∀ L ∈ frs C, L ≠ env.locals → L ≠ a) : StkR C env g h' := ⟨S.1, fun L hL hn =>
  let ⟨h0, h1, h2, o, h3, h4⟩ := S.2 L hL hn; ⟨h0, h1, h2, o, hk L o (ha L hL hn) h3, h4⟩⟩
theorem ns_dD {h : Heap} {a : Addr} {m : Str → Option Value} (x : h.Ns a m) : ∃ o, h.get? a = some o ∧ dD o = true := by
  refine byC fun hZ => ?_
  obtain ⟨o, es, ep, h1, h2, _⟩ := x
  refine hZ ?_; clear hZ
  exact ⟨o, h1, by show dDd o.data = true; rw [h2]; rfl⟩
theorem FR.full (F : FR C nm vm env ρ g h) : StkC C g h := fun L hL => by
  by_cases hn : L = env.locals
  · subst hn
    obtain ⟨m, h1, _⟩ := F.ns
    exact ⟨F.offL.1, F.offL.2, ns_dD h1⟩
  · exact (F.stk.2 L hL hn).2

theorem cell_nd {h : Heap} {c : Addr} {o : Option Value} {ob : Obj} (x : h.get? c = some ob) (y : h.IsCell c o) : dD ob = false := by
  refine byC fun hZ => ?_
  obtain ⟨oc, h3, h4⟩ := y
  refine hZ ?_; clear hZ
  rw [x] at h3; cases h3
  show dDd ob.data = false
  rw [h4]; rfl
theorem FR.ext (F : FR C nm vm env ρ g s.heap) (R : C.Rel σ g s.heap) (e : Ext noOwn g s g' s') : FR C nm vm env ρ g' s'.heap where
  kind := F.kind
  names := F.names
  glob := F.glob
  blt := F.blt
  inj := F.inj
  ns := by
    refine byC fun hZ => ?_
    refine byC fun hZ => ?_
    obtain ⟨m, h1, h2⟩ := F.ns
    refine hZ ?_; clear hZ
    refine hZ ?_; clear hZ
    refine ⟨m, ?_, fun x i v a1 a2 a3 a4 => ?_⟩
    · exact e.keepNs h1 F.offL.1 (fun q => q)
    · obtain ⟨y, b1, b2⟩ := h2 x i v a1 a2 a3 a4
      exact ⟨y, b1, VR_ext R e Off.none b2⟩
  cl := fun x i a1 a2 => by
    refine byC fun hZ => ?_
    refine byC fun hZ => ?_
    obtain ⟨cc, o, b1, b2, b3⟩ := F.cl x i a1 a2
    refine hZ ?_; clear hZ
    refine hZ ?_; clear hZ
    refine ⟨cc, o, b1, ?_, fun v a3 a4 => ?_⟩
    · obtain ⟨ob, ho, rest⟩ := id b2
      exact ⟨ob, e.keepN ho (F.offC x cc b1).1 (fun q => q) (cell_nd ho b2), rest⟩
    · obtain ⟨y, c1, c2⟩ := b3 v a3 a4
      exact ⟨y, c1, VR_ext R e Off.none c2⟩
  offL := by
    obtain ⟨m, h1, _⟩ := F.ns
    obtain ⟨o, ho⟩ := Heap.Ns.live h1
    exact ⟨e.notμ ho F.offL.1, e.notΦ ho F.offL.2⟩
  offC := fun x cc b1 => by
    obtain ⟨o, ob, ho, _⟩ := F.cliv x cc b1
    exact ⟨e.notμ ho (F.offC x cc b1).1, e.notΦ ho (F.offC x cc b1).2⟩
  cliv := fun x cc b1 => by
    obtain ⟨o, q⟩ := F.cliv x cc b1
    obtain ⟨ob, ho, rest⟩ := id q
    exact ⟨o, ob, e.keepN ho (F.offC x cc b1).1 (fun q => q) (cell_nd ho q), rest⟩
  apart := F.apart
  stk := F.stk.ext e fun _ _ _ q => q

noncomputable def Fix.g0 (C : Fix) : Cfg := ⟨[], fun a => (C.B.get? a).isSome = true, fun _ => False⟩

noncomputable def biWords : List Str := ["len", "sorted", "tuple", "list", "dict", "str", "int", "abs", "range", "min", "max", "sum", "all", "isinstance", "bool", "set", "ValueError"]

noncomputable def InBase (C : Fix) (lv : Addr → Prop) (g : Cfg) (base h : Heap) : Prop := ∀ b o, h.get? b = some o → (b ∈ g.μ ∨ g.Φ b ∨ (lv b ∧ b ∉ frs C)) → base.get? b = some o
noncomputable def XF (C : Fix) (lv : Addr → Prop) (g : Cfg) (k : Str) (e : Addr) (h : Heap) : Prop := ∃ I base a0, C.exc k = some I ∧ Heap.FlyingW base C.fs e (.ref I) a0 h ∧ InBase C lv g base h
noncomputable def XM (C : Fix) (lv : Addr → Prop) (g : Cfg) (k : Str) (e : Addr) (h : Heap) : Prop := ∃ I h0 vs, C.exc k = some I ∧ Heap.MadeExcOf h0 h e (.ref I) vs ∧ StkC C g h0 ∧ ∀ b, (b ∈ g.μ ∨ g.Φ b ∨ lv b) → (h0.get? b).isSome = true
noncomputable def XH (C : Fix) (lv : Addr → Prop) (g : Cfg) (k : Str) (e : Addr) (h : Heap) : Prop := ∃ I base a0 env l L, C.exc k = some I ∧ C.fs = env :: l ∧ env.frame = some L ∧ Heap.HeldW base C.fs e (.ref I) a0 L h ∧ InBase C lv g base h
noncomputable def XS (C : Fix) (lv : Addr → Prop) (g : Cfg) (k : Str) (e : Addr) (h : Heap) : Prop := XF C lv g k e h ∨ XM C lv g k e h ∨ XH C lv g k e h
theorem InBase.mono {lv lv' : Addr → Prop} {base : Heap} (x : InBase C lv g base h) (hl : ∀ b, lv' b → lv b) (hm : ∀ b, b ∈ g'.μ → b ∈ g.μ ∨ g.Φ b) (hf : ∀ b, g'.Φ b → b ∈ g.μ ∨ g.Φ b) : InBase C lv' g' base h := fun b o e q =>
  x b o e (q.elim (fun q => (hm b q).imp id .inl) fun q => q.elim (fun q => (hf b q).imp id .inl) fun q => .inr (.inr ⟨hl b q.1, q.2⟩))
theorem XF.mono {lv lv' : Addr → Prop} {k : Str} {e : Addr} (x : XF C lv g k e h) (hl : ∀ b, lv' b → lv b) (hm : ∀ b, b ∈ g'.μ → b ∈ g.μ ∨ g.Φ b) (hf : ∀ b, g'.Φ b → b ∈ g.μ ∨ g.Φ b) : XF C lv' g' k e h :=
  let ⟨I, base, a0, h1, h2, h3⟩ := x; ⟨I, base, a0, h1, h2, h3.mono hl hm hf⟩
theorem XS.mono {lv lv' : Addr → Prop} {k : Str} {e : Addr} (x : XS C lv g k e h) (hl : ∀ b, lv' b → lv b) (hm : g'.μ = g.μ) (hf : g'.Φ = g.Φ) : XS C lv' g' k e h := by
  have m1 : ∀ b, b ∈ g'.μ → b ∈ g.μ ∨ g.Φ b := fun b q => .inl (hm ▸ q)
  have m2 : ∀ b, g'.Φ b → b ∈ g.μ ∨ g.Φ b := fun b q => .inr (hf ▸ q)
  rcases x with x | ⟨I, h0, vs, h1, h2, h3, h4⟩ | ⟨I, base, a0, env, l, L, h1, h2, h3, h4, h5⟩
  · exact .inl (x.mono hl m1 m2)
  · exact .inr (.inl ⟨I, h0, vs, h1, h2, fun L hL => by rw [hm, hf]; exact h3 L hL, fun b q => h4 b (q.elim (fun q => .inl (hm ▸ q)) fun q => q.elim (fun q => .inr (.inl (hf ▸ q))) fun q => .inr (.inr (hl b q)))⟩)
  · exact .inr (.inr ⟨I, base, a0, env, l, L, h1, h2, h3, h4, h5.mono hl m1 m2⟩)
noncomputable abbrev lvs (s : Shared) : Addr → Prop := fun b => (s.heap.get? b).isSome = true
noncomputable def Flies (C : Fix) (g : Cfg) (s : Shared) (σ' : AH) (k : Str) (e : Addr) (s' : Shared) : Prop := ∃ g', Ext noOwn g s g' s' ∧ C.Rel σ' g' s'.heap ∧ XF C (lvs s) g' k e s'.heap
noncomputable def Thrown (C : Fix) (own : Addr → Prop) (g : Cfg) (s : Shared) (σ' : AH) (k : Str) (e : Addr) (s' : Shared) : Prop := ∃ g', Ext own g s g' s' ∧ C.Rel σ' g' s'.heap ∧ XS C (lvs s) g' k e s'.heap ∧ StkC C g' s'.heap
noncomputable def PostC (C : Fix) (g : Cfg) (s : Shared) (r : Res PV) (Q E : Value → Shared → Prop) : Prop := match r with
  | .ok v σ' => ∀ g' s' x, Ext noOwn g s g' s' → C.Rel σ' g' s'.heap → C.VR g' s'.heap v x → Q x s'
  | .exc k σ' => ∀ s' e, Flies C g s σ' k e s' → E (.ref e) s'
  | .bad => False
theorem Thrown.shift {k : Str} {e : Addr} {s2 : Shared} (x : Ext own g s g' s') (y : Thrown C own g' s' σ' k e s2) : Thrown C own g s σ' k e s2 := by
  obtain ⟨g2, e2, R2, x2, S2⟩ := y
  exact ⟨g2, x.trans e2, R2, x2.mono (x.live) rfl rfl, S2⟩
theorem Flies.thrown {k : Str} {e : Addr} (S : StkC C g s.heap) (y : Flies C g s σ' k e s') : Thrown C own g s σ' k e s' := by
  obtain ⟨g2, e2, R2, x2⟩ := y
  exact ⟨g2, e2.weaken, R2, .inl x2, S.ext e2 fun _ _ q => q⟩
noncomputable def PostE (C : Fix) (own : Addr → Prop) (g : Cfg) (s : Shared) (r : Res PV) (Q E : Value → Shared → Prop) : Prop := match r with
  | .ok v σ' => ∀ g' s' x, Ext own g s g' s' → C.Rel σ' g' s'.heap → C.VR g' s'.heap v x → Q x s'
  | .exc k σ' => ∀ s' e, Thrown C own g s σ' k e s' → E (.ref e) s'
  | .bad => False
theorem PostE.shift {r : Res PV} (e : Ext own g s g' s') (h : PostE C own g s r Q E) : PostE C own g' s' r Q E := by
  cases r with
  | ok v σ' => exact fun g2 s2 x e2 R hv => h g2 s2 x (e.trans e2) R hv
  | exc k σ' => exact fun s2 x y => h s2 x (Thrown.shift e y)
  | bad => exact h
theorem box_sound {m : Nat} {f : Frs} (hp : PostE C noOwn g s (box m f σ) Q E) {a : Addr} (e : Ext noOwn g s g' s') (R : C.Rel σ g' s'.heap) (ha : s.heap.get? a = none) (hn : a ∉ g'.μ) (hf : ¬ g'.Φ a) (hr : FrsR C g' s'.heap f a) : Q (.ref a) s' := by
  cases m with
  | zero => exact hp _ s' _ (e.frz ha) (R.frz hn hr.live) (hr.vr (R.notSys hf))
  | succ m =>
    refine hp _ s' _ (e.trk ha) (R.trk hn hf (hr.ob fun q => hn (R.rel.lkμ _ q))) (.ref ?_)
    show (g'.μ ++ [a])[σ.length]? = some a
    rw [← R.rel.len]; simp

theorem fin_sound {m : Nat} {o : Option Out} (hp : PostE C noOwn g s (fin m o σ) Q E) : PostO C σ g s o Q := by
  cases o with
  | none => exact hp
  | some o => cases o with
    | v v => exact hp
    | f f =>
      rintro g' s' x e R ⟨a, rfl, ha, hn, hf, hr⟩
      exact box_sound hp e R ha hn hf hr

theorem PostE.toC {r : Res PV} (S : StkC C g s.heap) (h : PostE C noOwn g s r Q E) : PostC C g s r Q E := by
  cases r with
  | ok => exact h
  | exc => exact fun s' e y => h s' e (y.thrown S)
  | bad => exact h
noncomputable def ExcAt (C : Fix) (k : Str) (I : Addr) : Prop := C.mg k = some (.ref I) ∧ ∃ bm N nm q bs hdct sn sub ab col dd k0 k1 k2 k3 k5 mN,
  C.B.get? I = some (excClassObj nm q I N bs bm hdct sn sub ab col dd k0 k1 k2 k3 k5 "ValueError.__new__") ∧ C.B.Ns N mN ∧ mN "__init__" = none ∧ OwnTail C.B [.type "ValueError", .type "Exception", .type "BaseException", .type "object"] bm
noncomputable def IsaAt (C : Fix) (isa : Str → Str → Bool) : Prop := ∀ k I, C.exc k = some I → ∀ y, (∃ D, C.exc y = some D) ∨ y = "ValueError" → ∃ v, (v = .type "ValueError" ∧ y = "ValueError" ∨ C.mg y = some v) ∧
  (∀ {A : Around} {E : Value → Shared → Prop} {s : Shared} {e : Addr} {o : Obj} {Q : Value → Shared → Prop}, (∀ b o, C.B.get? b = some o → s.heap.get? b = some o) → s.heap.get? e = some o → o.cls = .ref I → (∀ tk, Q (.bool (isa k y)) { s with toks := tk }) → wpAny (model C.prog C.w) A (call (.builtin "isinstance") [.ref e, v]) Q E s) ∧
  (∀ {A : Around} {E : Value → Shared → Prop} {s : Shared} {e : Addr} {o : Obj} {Q : Bool → Shared → Prop}, (∀ b o, C.B.get? b = some o → s.heap.get? b = some o) → s.heap.get? e = some o → o.cls = .ref I → Q (isa k y) s → wpAny (model C.prog C.w) A (excMatches (.ref e) v) Q E s)

structure CxOK (C : Fix) (c : Cx) (d : Nat) : Prop where
  gl : ∀ x v, c.gl x = some v → ∃ y, C.mg x = some y ∧ C.VR C.g0 C.B v y
  fnv : ∀ f args σ, noDot f = true → c.cal f args σ ≠ .bad → ∃ a o fd, C.mg f = some (.ref a) ∧ C.B.get? a = some o ∧ o.data = .func fd
  fns : ∀ f, noDot f = true → c.atr f = true → ∃ a o fd, C.mg f = some (.ref a) ∧ C.B.get? a = some o ∧ o.data = .func fd
  cal : ∀ f a args xs σ g s A Q E, noDot f = true → C.mg f = some (.ref a) → AOK C A d → C.Rel σ g s.heap → C.VRs g s.heap args xs → StkC C g s.heap → PostC C g s (c.cal f args σ) Q E → wpAny (model C.prog C.w) A (call (.ref a) xs) Q E s
  bi : ∀ w ∈ biWords, C.mg w = none
  exc : ∀ k I, C.exc k = some I → c.isa k "!" = true → ExcAt C k I
  isa : IsaAt C c.isa
  exk : ∀ k, c.isa k k = true → ∃ I, C.exc k = some I

theorem VR_base (R : C.Rel σ g h) {v : PV} {y : Value} (hv : C.VR C.g0 C.B v y) : C.VR g h v y :=
  hv.mono (List.nil_prefix) (fun a ha => R.bas a ha) fun a o ha e => R.rel.base a o e

theorem ok_inj {α : Type} {a b : α} {σ σ' : AH} (h : Res.ok a σ = .ok b σ') : a = b ∧ σ = σ' := by cases h; exact ⟨rfl, rfl⟩
theorem bind_inv {α β : Type} {r : Res α} {f : α → AH → Res β} {v : β} {σ' : AH} (h : r.bind f = .ok v σ') : ∃ a σ1, r = .ok a σ1 ∧ f a σ1 = .ok v σ' := by
  cases r with
  | ok a σ1 => exact ⟨a, σ1, rfl, h⟩
  | exc => cases h
  | bad => cases h
theorem PostE.bindE {α : Type} {r : Res α} {f : α → AH → Res PV} (hp : PostE C own g s (r.bind f) Q E) : ∃ v σ1, r = .ok v σ1 ∧ PostE C own g s (f v σ1) Q E := by
  cases r with
  | ok v σ1 => exact ⟨v, σ1, rfl, hp⟩
  | exc => exact hp.elim
  | bad => exact hp.elim

theorem PostE.bindXE {α : Type} {r : Res α} {f : α → AH → Res PV} (hp : PostE C own g s (r.bindX f) Q E) : (∃ v σ1, r = .ok v σ1 ∧ PostE C own g s (f v σ1) Q E) ∨ ∃ k σ1, r = .exc k σ1 ∧ ∀ s' e, Thrown C own g s σ1 k e s' → E (.ref e) s' := by
  cases r with
  | ok v σ1 => exact .inl ⟨v, σ1, rfl, hp⟩
  | exc k σ1 => exact .inr ⟨k, σ1, rfl, hp⟩
  | bad => exact hp.elim
theorem PostE.ex {r : Res PV} {k : Str} (hr : r = .exc k σ') (h : ∀ s' e, Thrown C own g s σ' k e s' → E (.ref e) s') : PostE C own g s r Q E := by rw [hr]; exact h
theorem PostE.mk {r : Res PV} {v : PV} (hr : r = .ok v σ') (h : ∀ g' s' x, Ext own g s g' s' → C.Rel σ' g' s'.heap → C.VR g' s'.heap v x → Q x s') : PostE C own g s r Q E := by rw [hr]; exact h

noncomputable def PostT (C : Fix) (own : Addr → Prop) (g : Cfg) (s : Shared) (r : Res PV) (Q : Bool → Shared → Prop) : Prop := match r with
  | .ok v σ' => match truth σ' v with
    | some b => ∀ g' s', Ext own g s g' s' → C.Rel σ' g' s'.heap → Q b s'
    | none => False
  | _ => False
noncomputable def PostL (C : Fix) (own : Addr → Prop) (g : Cfg) (s : Shared) (r : Res (List PV)) (Q : List Value → Shared → Prop) (E : Value → Shared → Prop) : Prop := match r with
  | .ok vs σ' => ∀ g' s' xs, Ext own g s g' s' → C.Rel σ' g' s'.heap → C.VRs g' s'.heap vs xs → Q xs s'
  | .exc k σ' => ∀ s' e, Thrown C own g s σ' k e s' → E (.ref e) s'
  | .bad => False

theorem PostL.ex {r : Res (List PV)} {k : Str} {Q : List Value → Shared → Prop} (hr : r = .exc k σ') (h : ∀ s' e, Thrown C own g s σ' k e s' → E (.ref e) s') : PostL C own g s r Q E := by rw [hr]; exact h
theorem bindX_inv {α β : Type} {r : Res α} {f : α → AH → Res β} {v : β} {σ' : AH} (h : r.bindX f = .ok v σ') : ∃ a σ1, r = .ok a σ1 ∧ f a σ1 = .ok v σ' := by
  cases r with
  | ok a σ1 => exact ⟨a, σ1, rfl, h⟩
  | exc => cases h
  | bad => cases h
theorem PostL.mk {r : Res (List PV)} {v : List PV} {Q : List Value → Shared → Prop} (hr : r = .ok v σ') (h : ∀ g' s' x, Ext own g s g' s' → C.Rel σ' g' s'.heap → C.VRs g' s'.heap v x → Q x s') : PostL C own g s r Q E := by rw [hr]; exact h
theorem PostT.mk {r : Res PV} {v : PV} {b : Bool} {Q : Bool → Shared → Prop} (hr : r = .ok v σ') (hb : truth σ' v = some b) (h : ∀ g' s', Ext own g s g' s' → C.Rel σ' g' s'.heap → Q b s') : PostT C own g s r Q := by
  rw [hr]; unfold PostT; simp only [hb]; exact h

noncomputable def SndE (C : Fix) (c : Cx) (d : Nat) (pe : PE) : Prop := ∀ nm vm e env m ρ σ g s A (Q E : Value → Shared → Prop), chkE pe nm vm e = true → FR C nm vm env ρ g s.heap → C.Rel σ g s.heap → AOK C A d →
  PostE C noOwn g s (ev c pe m ρ σ) Q E → wpAny (model C.prog C.w) A (eval e env) Q E s
noncomputable def SndT (C : Fix) (c : Cx) (d : Nat) (pe : PE) : Prop := ∀ nm vm e env ρ σ g s A (Q : Bool → Shared → Prop) (E : Value → Shared → Prop), chkE pe nm vm e = true → FR C nm vm env ρ g s.heap → C.Rel σ g s.heap → AOK C A d →
  PostT C noOwn g s (ev c pe 0 ρ σ) Q → wpAny (model C.prog C.w) A (isTrue e env (eval e env)) Q E s
noncomputable def SndEs (C : Fix) (c : Cx) (d : Nat) (pes : PEs) : Prop := ∀ nm vm es env m ρ σ g s A pos (Q : List Value → Shared → Prop) (E : Value → Shared → Prop), chkEs pes nm vm es = true → FR C nm vm env ρ g s.heap → C.Rel σ g s.heap → AOK C A d →
  PostL C noOwn g s (evs c pes m ρ σ) Q E → wpAny (model C.prog C.w) A (spliced (backTo pos (starEach es env))) Q E s

noncomputable def plainE : Expr → Bool
  | .Starred .. | .Slice .. | .Set .. => false
  | _ => true
theorem chk_plain {pe : PE} {e : Expr} (hc : chkE pe nm vm e = true) : plainE e = true := by
  cases e <;> first | rfl | (cases pe <;> (exact absurd (show false = true from hc) Bool.false_ne_true))

theorem starEach_plain {e : Expr} {rest : List Expr} (h : plainE e = true) : starEach (e :: rest) env = (false, eval e env) :: starEach rest env := by
  cases e <;> first | rfl | cases h
theorem chkEs_cons {e : PE} {es : PEs} {l : List Expr} (h : chkEs (.cons e es) nm vm l = true) : ∃ a as, l = a :: as ∧ chkE e nm vm a = true ∧ chkEs es nm vm as = true := by
  cases l with
  | nil => cases h
  | cons a as =>
    have h' : (chkE e nm vm a && chkEs es nm vm as) = true := h
    obtain ⟨h1, h2⟩ := Bool.and_eq_true_iff.mp h'
    exact ⟨a, as, rfl, h1, h2⟩
theorem chkEs_nil {l : List Expr} (h : chkEs .nil nm vm l = true) : l = [] := by
  cases l with
  | nil => rfl
  | cons => cases h

theorem sndEs_nil : SndEs C c d .nil := by
  intro nm vm es env m ρ σ g s A pos Q E hc F R hA hp
  rw [chkEs_nil hc]
  exact Calls.spliced_nil (hp g s [] (Ext.refl g s) R .nil)
theorem sndEs_cons {e : PE} {es : PEs} (h1 : SndE C c d e) (h2 : SndEs C c d es) : SndEs C c d (.cons e es) := by
  intro nm vm l env m ρ σ g s A pos Q E hc F R hA hp
  refine byC fun hZ => ?_
  obtain ⟨a, as, rfl, c1, c2⟩ := chkEs_cons hc
  refine hZ ?_; clear hZ
  have e1 : backTo pos (starEach (a :: as) env) = (false, eval a env) :: backTo pos (starEach as env) := by rw [starEach_plain (chk_plain c1)]; rfl
  rw [e1]
  rw [evs_c] at hp
  cases hr : ev c e m ρ σ with
  | exc k σ1 => rw [hr] at hp; exact Calls.spliced_cons (h1 nm vm a env m ρ σ g s A _ _ c1 F R hA (by rw [hr]; exact hp))
  | bad => rw [hr] at hp; exact hp.elim
  | ok v σ1 =>
    rw [hr] at hp
    simp only [Res.bindX] at hp
    refine Calls.spliced_cons (h1 nm vm a env m ρ σ g s A _ _ c1 F R hA (PostE.mk hr fun g1 s1 x x1 R1 v1 => ?_))
    cases hr2 : evs c es m ρ σ1 with
    | exc k σ2 => rw [hr2] at hp; exact h2 nm vm as env m ρ σ1 g1 s1 A pos _ _ c2 (F.ext R x1) R1 hA (by rw [hr2]; exact fun s2 e y => hp s2 e (Thrown.shift x1 y))
    | bad => rw [hr2] at hp; exact hp.elim
    | ok vs σ2 =>
      rw [hr2] at hp
      refine h2 nm vm as env m ρ σ1 g1 s1 A pos _ _ c2 (F.ext R x1) R1 hA (PostL.mk hr2 fun g2 s2 xs x2 R2 v2 => ?_)
      exact hp g2 s2 (x :: xs) (x1.trans x2) R2 (.cons (VR_ext R1 x2 Off.none v1) v2)

theorem sndE_const (k : Const) : SndE C c d (.const k) := by
  intro nm vm e env m ρ σ g s A Q E hc F R hA hp
  refine byC fun hZ => ?_
  obtain ⟨k', a, b, rfl⟩ := fmConst hc
  have hc' : (okConst k && decide (k = k')) = true := hc
  obtain ⟨h1, h2⟩ := Bool.and_eq_true_iff.mp hc'
  refine hZ ?_; clear hZ
  have h2 := of_decide_eq_true h2
  subst h2
  rw [e_const] at hp
  cases k with
  | none => exact fun _ _ _ => hp g s _ (Ext.refl g s) R .none
  | bool b => exact fun _ _ _ => hp g s _ (Ext.refl g s) R (.bool b)
  | int i => exact wpAny_Constant_int (hp g _ _ (Ext.refl g s).toks R (.int i _))
  | str x => exact Calls.Constant_str (hp g _ _ (Ext.refl g s).toks R (.str x _))
  | _ => cases h1

theorem plainName_debug {x : Str} (h : plainName x = true) : (x == ("__debug__" : Str)) = false := by
  have := (Bool.and_eq_true_iff.mp (show (_ && _) = true from h)).1
  simpa using this

theorem plainName_cd {x : Str} (h : plainName x = true) : (x == ("__classdict__" : Str)) = false := by
  have := (Bool.and_eq_true_iff.mp (show (_ && _) = true from h)).2
  simpa using this

theorem sndE_loc (i : Nat) : SndE C c d (.loc i) := by
  intro nm vm e env m ρ σ g s A Q E hc F R hA hp
  refine byC fun hZ => ?_
  obtain ⟨x, pos, rfl⟩ := fmName hc
  have hc' : (vm.lookup x == some i && isVar (nm.lookup x) && plainName x) = true := hc
  obtain ⟨h12, h3⟩ := Bool.and_eq_true_iff.mp hc'
  obtain ⟨h1, h2⟩ := Bool.and_eq_true_iff.mp h12
  refine hZ ?_; clear hZ
  have h1 : vm.lookup x = some i := by simpa using h1
  rw [e_loc] at hp
  cases hv : ρ[i]? with
  | none => rw [hv] at hp; exact hp.elim
  | some v =>
    rw [hv] at hp
    have hu : v ≠ .undef := by rintro rfl; exact hp.elim
    have hp' : PostE C noOwn g s (.ok v σ) Q E := by cases v <;> first | exact hp | exact absurd rfl hu
    have hkind : env.kindOf x = nm.lookup x := by rw [← F.names]; rfl
    refine wpAny_Name ?_ (plainName_debug h3)
    cases hk : nm.lookup x with
    | none => rw [hk] at h2; cases h2
    | some k =>
      rw [hk] at h2 hkind
      cases k with
      | «local» =>
        refine byC fun hZ => ?_
        refine byC fun hZ => ?_
        obtain ⟨m', n1, n2⟩ := F.ns
        obtain ⟨y, b1, b2⟩ := n2 x i v h1 hk hv hu
        refine hZ ?_; clear hZ
        refine hZ ?_; clear hZ
        exact wpAny_loadName_local F.kind hkind n1 b1 (hp' g s y (Ext.refl g s) R b2)
      | cell =>
        obtain ⟨cc, o, b1, b2, b3⟩ := F.cl x i h1 (by rw [hk]; rfl)
        obtain ⟨y, rfl, b4⟩ := b3 v hv hu
        exact wpAny_loadName_cell F.kind hkind b1 b2 (hp' g s y (Ext.refl g s) R b4)
      | free =>
        obtain ⟨cc, o, b1, b2, b3⟩ := F.cl x i h1 (by rw [hk]; rfl)
        obtain ⟨y, rfl, b4⟩ := b3 v hv hu
        exact wpAny_loadName_free F.kind hkind b1 b2 (hp' g s y (Ext.refl g s) R b4) (plainName_cd h3)
      | _ => cases h2

theorem glob_chk {y : Str} {e : Expr} (hc : chkE (.glob y) nm vm e = true) : ∃ p, e = .Name y p ∧ isGlob (nm.lookup y) = true ∧ plainName y = true := by
  refine byC fun hZ => ?_
  obtain ⟨x, p, rfl⟩ := fmName hc
  have hc' : (x == y && isGlob (nm.lookup x) && plainName x) = true := hc
  obtain ⟨h12, h3⟩ := Bool.and_eq_true_iff.mp hc'
  obtain ⟨h1, h2⟩ := Bool.and_eq_true_iff.mp h12
  refine hZ ?_; clear hZ
  have h1 : x = y := by simpa using h1
  subst h1
  exact ⟨p, rfl, h2, h3⟩
theorem isGlob_kind {x : Str} (F : FR C nm vm env ρ g h) (hg : isGlob (nm.lookup x) = true) : env.kindOf x = some .globalImplicit := by
  have hkind : env.kindOf x = nm.lookup x := by rw [← F.names]; rfl
  rw [hkind]
  cases hk : nm.lookup x with
  | none => rw [hk] at hg; cases hg
  | some k => rw [hk] at hg; cases k <;> first | rfl | cases hg

theorem globNs (K : C.OK) (R : C.Rel σ g s.heap) (F : FR C nm vm env ρ g s.heap) : s.heap.Ns env.globals C.mg := F.glob ▸ K.g.keeps R.rel.base
theorem bltNs (K : C.OK) (R : C.Rel σ g s.heap) (F : FR C nm vm env ρ g s.heap) : s.heap.Ns env.builtins C.mb := F.blt ▸ K.b.keeps R.rel.base

theorem sndE_bin (K : C.OK) {op : Operator} {a b : PE} (ha : SndE C c d a) (hb : SndE C c d b) : SndE C c d (.bin op a b) := by
  intro nm vm e env m ρ σ g s A Q E hc F R hA hp
  refine byC fun hZ => ?_
  obtain ⟨l, op', r, pos, rfl⟩ := fmBin hc
  have hc' : (decide (op = op') && chkE a nm vm l && chkE b nm vm r) = true := hc
  obtain ⟨h12, h3⟩ := Bool.and_eq_true_iff.mp hc'
  obtain ⟨h1, h2⟩ := Bool.and_eq_true_iff.mp h12
  refine hZ ?_; clear hZ
  have h1 := of_decide_eq_true h1
  subst h1
  refine byC fun hZ => ?_
  refine byC fun hZ => ?_
  obtain ⟨x, σ1, r1, hp⟩ := hp.bindE
  obtain ⟨y, σ2, r2, hp⟩ := hp.bindE
  refine hZ ?_; clear hZ
  refine hZ ?_; clear hZ
  refine wpAny_BinOp (ha nm vm l env 0 ρ σ g s A _ _ h2 F R hA (PostE.mk r1 fun g1 s1 vx e1 R1 v1 => ?_))
  refine hb nm vm r env 0 ρ σ1 g1 s1 A _ _ h3 (F.ext R e1) R1 hA (PostE.mk r2 fun g2 s2 vy e2 R2 v2 => ?_)
  exact binop_sound K hA R2 (VR_ext R1 e2 Off.none v1) v2 (fin_sound (hp.shift (e1.trans e2)))

theorem okV_elim {o : Option PV} (hp : PostE C own g s (okV o σ) Q E) : ∃ v, o = some v ∧ PostE C own g s (.ok v σ) Q E := by
  cases o with
  | none => exact hp.elim
  | some v => exact ⟨v, rfl, hp⟩
theorem sndE_glob (K : C.OK) (X : CxOK C c d) (y : Str) : SndE C c d (.glob y) := by
  intro nm vm e env m ρ σ g s A Q E hc F R hA hp
  refine byC fun hZ => ?_
  obtain ⟨p, rfl, h2, h3⟩ := glob_chk hc
  obtain ⟨v, hv, hp⟩ := okV_elim hp
  obtain ⟨z, z1, z2⟩ := X.gl y v hv
  refine hZ ?_; clear hZ
  exact Calls.Name_function_global F.kind (isGlob_kind F h2) (Calls.loadGlobal_global (globNs K R F) z1 (hp g s z (Ext.refl g s) R (VR_base R z2))) (plainName_debug h3)

end Mine

set_option autoImplicit false
set_option backward.match.sparseCases true
set_option linter.unusedVariables false
namespace Mine
open PySem PyProof.Rows PySem.SeqAt

variable {C : Fix} {c : Cx} {σ σ' : AH} {g g' : Cfg} {h h' : Heap} {s s' : Shared} {own : Addr → Prop} {A : Around} {d : Nat} {nm : NM} {vm : VM} {env : Env} {ρ : List PV}
  {Q : Value → Shared → Prop} {E : Value → Shared → Prop}

theorem and2 {a b : Bool} (h : (a && b) = true) : a = true ∧ b = true := Bool.and_eq_true_iff.mp h

theorem PostT.okT {r : Res PV} {Q : Bool → Shared → Prop} (hp : PostT C own g s r Q) : ∃ v σ1 b, r = .ok v σ1 ∧ truth σ1 v = some b ∧ ∀ g' s', Ext own g s g' s' → C.Rel σ1 g' s'.heap → Q b s' := by
  cases r with
  | ok v σ1 =>
    unfold PostT at hp
    simp only at hp
    cases ht : truth σ1 v with
    | none => rw [ht] at hp; exact hp.elim
    | some b => rw [ht] at hp; exact ⟨v, σ1, b, rfl, ht, hp⟩
  | exc => exact hp.elim
  | bad => exact hp.elim
theorem PostT.bindT {α : Type} {r : Res α} {f : α → AH → Res PV} {Q : Bool → Shared → Prop} (hp : PostT C own g s (r.bind f) Q) : ∃ v σ1, r = .ok v σ1 ∧ PostT C own g s (f v σ1) Q := by
  cases r with
  | ok v σ1 => exact ⟨v, σ1, rfl, hp⟩
  | exc => exact hp.elim
  | bad => exact hp.elim
theorem PostT.shift {r : Res PV} {Q : Bool → Shared → Prop} (e : Ext own g s g' s') (hp : PostT C own g s r Q) : PostT C own g' s' r Q := by
  refine byC fun hZ => ?_
  refine byC fun hZ => ?_
  obtain ⟨v, σ1, b, h1, h2, h3⟩ := hp.okT
  refine hZ ?_; clear hZ
  refine hZ ?_; clear hZ
  exact PostT.mk h1 h2 fun g2 s2 e2 R => h3 g2 s2 (e.trans e2) R
noncomputable def bareT : Expr → Bool
  | .UnaryOp .Not _ _ | .BoolOp .. | .IfExp .. | .Compare .. => false
  | _ => true
theorem isTrue_bare {e : Expr} {whole : Sem Value} (h : bareT e = true) : isTrue e env whole = (do let v ← whole; standAt e.pos; holding [v] (truthy v)) := by
  cases e <;> first | rfl | cases h | skip
  rename_i op x pos
  cases op <;> first | rfl | cases h
theorem sndT_bare {pe : PE} (hE : SndE C c d pe) (hb : ∀ nm vm e, chkE pe nm vm e = true → bareT e = true) : SndT C c d pe := by
  intro nm vm e env ρ σ g s A Q E hc F R hA hp
  refine byC fun hZ => ?_
  refine byC fun hZ => ?_
  obtain ⟨v, σ1, b, h1, h2, h3⟩ := hp.okT
  refine hZ ?_; clear hZ
  refine hZ ?_; clear hZ
  rw [isTrue_bare (hb nm vm e hc)]
  refine wpAny_bind (hE nm vm e env 0 ρ σ g s A _ _ hc F R hA (PostE.mk h1 fun g1 s1 x e1 R1 v1 => wpAny_bind (wpAny_standAt (wpAny_holding ?_))))
  exact truth_sound R1 v1 h2 fun tk => h3 g1 _ e1.toks R1

theorem sndE_not {a : PE} (ha : SndE C c d a) : SndE C c d (.notE a) := by
  intro nm vm e env m ρ σ g s A Q E hc F R hA hp
  refine byC fun hZ => ?_
  obtain ⟨op, x, pos, rfl⟩ := fmUn hc
  refine hZ ?_; clear hZ
  cases op <;> try (exact absurd (show false = true from hc) Bool.false_ne_true)
  have hc' : chkE a nm vm x = true := hc
  refine byC fun hZ => ?_
  refine byC fun hZ => ?_
  obtain ⟨v, σ1, r1, hp⟩ := hp.bindE
  refine hZ ?_; clear hZ
  refine hZ ?_; clear hZ
  refine wpAny_UnaryOp (ha nm vm x env 0 ρ σ g s A _ _ hc' F R hA (PostE.mk r1 fun g1 s1 vx e1 R1 v1 => ?_))
  cases ht : truth σ1 v with
  | none => rw [ht] at hp; exact hp.elim
  | some b =>
    rw [ht] at hp
    unfold unaryOp
    refine wpAny_holding ?_
    show wpAny _ _ (truthy vx >>= fun b => pure (Value.bool (!b))) _ _ _
    exact wpAny_bind (truth_sound R1 v1 ht fun tk => wpAny_pure (hp g1 _ _ e1.toks R1 (.bool _)))
theorem sndT_not {a : PE} (ha : SndT C c d a) : SndT C c d (.notE a) := by
  intro nm vm e env ρ σ g s A Q E hc F R hA hp
  refine byC fun hZ => ?_
  obtain ⟨op, x, pos, rfl⟩ := fmUn hc
  refine hZ ?_; clear hZ
  cases op <;> try (exact absurd (show false = true from hc) Bool.false_ne_true)
  have hc' : chkE a nm vm x = true := hc
  refine byC fun hZ => ?_
  refine byC fun hZ => ?_
  obtain ⟨v, σ1, r1, hp⟩ := hp.bindT
  refine hZ ?_; clear hZ
  refine hZ ?_; clear hZ
  cases ht : truth σ1 v with
  | none => rw [ht] at hp; exact hp.elim
  | some b =>
    rw [ht] at hp
    exact wpAny_isTrue_Not (ha nm vm x env ρ σ g s A _ _ hc' F R hA (PostT.mk r1 ht fun g1 s1 e1 R1 => hp g1 s1 e1 R1))

theorem sndE_neg {a : PE} (ha : SndE C c d a) : SndE C c d (.neg a) := by
  intro nm vm e env m ρ σ g s A Q E hc F R hA hp
  refine byC fun hZ => ?_
  obtain ⟨op, x, pos, rfl⟩ := fmUn hc
  refine hZ ?_; clear hZ
  cases op <;> try (exact absurd (show false = true from hc) Bool.false_ne_true)
  have hc' : chkE a nm vm x = true := hc
  refine byC fun hZ => ?_
  refine byC fun hZ => ?_
  obtain ⟨v, σ1, r1, hp⟩ := hp.bindE
  refine hZ ?_; clear hZ
  refine hZ ?_; clear hZ
  refine wpAny_UnaryOp (ha nm vm x env 0 ρ σ g s A _ _ hc' F R hA (PostE.mk r1 fun g1 s1 vx e1 R1 v1 => ?_))
  cases v1 <;> first | exact hp.elim | skip
  exact PyProof.Rows.neg_int (hp g1 _ _ e1.toks R1 (.int ..))

theorem plain_marks {op : CmpOp} {e : Expr} (h : plainE e = true) : behindInMarks op e = false := by
  cases e <;> first | rfl | cases h

theorem cmp_chk {op : CmpOp} {a b : PE} {e : Expr} (hc : chkE (.cmp op a b) nm vm e = true) : ∃ l r pos, e = .Compare l [op] [r] pos ∧ chkE a nm vm l = true ∧ chkE b nm vm r = true := by
  refine byC fun hZ => ?_
  obtain ⟨l, ops, rs, pos, rfl⟩ := fmCmp hc
  refine hZ ?_; clear hZ
  rcases ops with _ | ⟨o1, _ | ⟨o2, os⟩⟩ <;> rcases rs with _ | ⟨r1, _ | ⟨r2, rs⟩⟩ <;> try (exact absurd (show false = true from hc) Bool.false_ne_true)
  refine byC fun hZ => ?_
  refine byC fun hZ => ?_
  obtain ⟨h12, h3⟩ := and2 (show (decide (op = o1) && chkE a nm vm l && chkE b nm vm r1) = true from hc)
  obtain ⟨h1, h2⟩ := and2 h12
  refine hZ ?_; clear hZ
  refine hZ ?_; clear hZ
  have h1 := of_decide_eq_true h1
  subst h1
  exact ⟨l, r1, pos, rfl, h2, h3⟩
theorem sndE_cmp {op : CmpOp} {a b : PE} (ha : SndE C c d a) (hb : SndE C c d b) : SndE C c d (.cmp op a b) := by
  intro nm vm e env m ρ σ g s A Q E hc F R hA hp
  refine byC fun hZ => ?_
  obtain ⟨l, r, pos, rfl, h2, h3⟩ := cmp_chk hc
  obtain ⟨x, σ1, r1, hp⟩ := hp.bindE
  obtain ⟨y, σ2, r2, hp⟩ := hp.bindE
  refine hZ ?_; clear hZ
  refine wpAny_Compare1 (ha nm vm l env 0 ρ σ g s A _ _ h2 F R hA (PostE.mk r1 fun g1 s1 vx e1 R1 v1 => ?_)) (plain_marks (chk_plain h3))
  refine hb nm vm r env 0 ρ σ1 g1 s1 A _ _ h3 (F.ext R e1) R1 hA (PostE.mk r2 fun g2 s2 vy e2 R2 v2 => ?_)
  cases hq : cmpP σ2 op x y with
  | none => rw [hq] at hp; exact hp.elim
  | some q =>
    rw [hq] at hp
    exact cmpP_sound hA R2 (VR_ext R1 e2 Off.none v1) v2 hq fun tk => hp g2 _ _ (e1.trans e2).toks R2 (.bool _)
theorem sndT_cmp {op : CmpOp} {a b : PE} (ha : SndE C c d a) (hb : SndE C c d b) : SndT C c d (.cmp op a b) := by
  intro nm vm e env ρ σ g s A Q E hc F R hA hp
  refine byC fun hZ => ?_
  obtain ⟨l, r, pos, rfl, h2, h3⟩ := cmp_chk hc
  obtain ⟨x, σ1, r1, hp⟩ := hp.bindT
  obtain ⟨y, σ2, r2, hp⟩ := hp.bindT
  refine hZ ?_; clear hZ
  refine wpAny_isTrue_Compare1 (ha nm vm l env 0 ρ σ g s A _ _ h2 F R hA (PostE.mk r1 fun g1 s1 vx e1 R1 v1 => ?_)) (plain_marks (chk_plain h3))
  refine hb nm vm r env 0 ρ σ1 g1 s1 A _ _ h3 (F.ext R e1) R1 hA (PostE.mk r2 fun g2 s2 vy e2 R2 v2 => ?_)
  cases hq : cmpP σ2 op x y with
  | none => rw [hq] at hp; exact hp.elim
  | some q =>
    rw [hq] at hp
    exact cmpP_sound hA R2 (VR_ext R1 e2 Off.none v1) v2 hq fun tk => wpAny_truthy_bool (hp g2 _ (e1.trans e2).toks R2)

noncomputable def SndB (C : Fix) (c : Cx) (d : Nat) (op : BoolOp) (f : PEs → List PV → AH → Res PV) (pes : PEs) : Prop :=
  (∀ nm vm es env ρ σ g s A pos (Q E : Value → Shared → Prop), chkEs pes nm vm es = true → FR C nm vm env ρ g s.heap → C.Rel σ g s.heap → AOK C A d →
    PostE C noOwn g s (f pes ρ σ) Q E → wpAny (model C.prog C.w) A (boolOp pos op (evalEach es env)) Q E s) ∧
  (∀ nm vm es env ρ σ g s A (Q : Bool → Shared → Prop) (E : Value → Shared → Prop), chkEs pes nm vm es = true → FR C nm vm env ρ g s.heap → C.Rel σ g s.heap → AOK C A d →
    PostT C noOwn g s (f pes ρ σ) Q → wpAny (model C.prog C.w) A (allTrue op es env) Q E s)

theorem sndAnd_nil : SndB C c d .And (evAnd c) .nil := by
  constructor
  · intro nm vm es env ρ σ g s A pos Q E hc F R hA hp; exact (show False from hp).elim
  · intro nm vm es env ρ σ g s A Q E hc F R hA hp; exact (show False from hp).elim
theorem sndOr_nil : SndB C c d .Or (evOr c) .nil := by
  constructor
  · intro nm vm es env ρ σ g s A pos Q E hc F R hA hp; exact (show False from hp).elim
  · intro nm vm es env ρ σ g s A Q E hc F R hA hp; exact (show False from hp).elim

theorem sndAnd_cons {e : PE} {es : PEs} (hE : SndE C c d e) (hT : SndT C c d e) (hr : SndB C c d .And (evAnd c) es) : SndB C c d .And (evAnd c) (.cons e es) := by
  constructor
  · intro nm vm l env ρ σ g s A pos Q E hc F R hA hp
    refine byC fun hZ => ?_
    obtain ⟨a, as, rfl, c1, c2⟩ := chkEs_cons hc
    refine hZ ?_; clear hZ
    cases es with
    | nil =>
      rw [chkEs_nil c2]
      have hp : PostE C noOwn g s (ev c e 0 ρ σ) Q E := hp
      exact hE nm vm a env 0 ρ σ g s A _ _ c1 F R hA hp
    | cons e2 es2 =>
      refine byC fun hZ => ?_
      obtain ⟨a2, as2, rfl, c3, c4⟩ := chkEs_cons c2
      refine hZ ?_; clear hZ
      have hp : PostE C noOwn g s ((ev c e 0 ρ σ).bind fun v σ1 => pickB (truth σ1 v) (evAnd c (.cons e2 es2) ρ σ1) (.ok v σ1)) Q E := hp
      refine byC fun hZ => ?_
      refine byC fun hZ => ?_
      obtain ⟨v, σ1, r1, hp⟩ := hp.bindE
      refine hZ ?_; clear hZ
      refine hZ ?_; clear hZ
      show wpAny _ _ (boolOp pos .And (eval a env :: eval a2 env :: evalEach as2 env)) _ _ _
      refine wpAny_bind (hE nm vm a env 0 ρ σ g s A _ _ c1 F R hA (PostE.mk r1 fun g1 s1 x e1 R1 v1 => wpAny_bind (wpAny_standAt (wpAny_bind (wpAny_holding ?_)))))
      cases ht : truth σ1 v with
      | none => rw [ht] at hp; exact hp.elim
      | some b =>
        rw [ht] at hp
        refine truth_sound R1 v1 ht fun tk => ?_
        have e3 : Ext noOwn g s g1 { s1 with toks := tk } := e1.toks
        cases b with
        | false => exact wpAny_pure (hp g1 _ _ e3 R1 v1)
        | true => exact hr.1 nm vm (a2 :: as2) env ρ σ1 g1 { s1 with toks := tk } A pos _ _ c2 (F.ext R e3) R1 hA (hp.shift e3)
  · intro nm vm l env ρ σ g s A Q E hc F R hA hp
    refine byC fun hZ => ?_
    obtain ⟨a, as, rfl, c1, c2⟩ := chkEs_cons hc
    refine hZ ?_; clear hZ
    cases es with
    | nil =>
      rw [chkEs_nil c2]
      have hp : PostT C noOwn g s (ev c e 0 ρ σ) Q := hp
      refine byC fun hZ => ?_
      refine byC fun hZ => ?_
      obtain ⟨v, σ1, b, h1, h2, h3⟩ := hp.okT
      refine hZ ?_; clear hZ
      refine hZ ?_; clear hZ
      refine wpAny_bind (hT nm vm a env ρ σ g s A _ _ c1 F R hA (PostT.mk h1 h2 fun g1 s1 e1 R1 => ?_))
      cases b with
      | false => exact wpAny_pure (h3 g1 s1 e1 R1)
      | true => exact wpAny_pure (h3 g1 s1 e1 R1)
    | cons e2 es2 =>
      have hp : PostT C noOwn g s ((ev c e 0 ρ σ).bind fun v σ1 => pickB (truth σ1 v) (evAnd c (.cons e2 es2) ρ σ1) (.ok v σ1)) Q := hp
      refine byC fun hZ => ?_
      refine byC fun hZ => ?_
      obtain ⟨v, σ1, r1, hp⟩ := hp.bindT
      refine hZ ?_; clear hZ
      refine hZ ?_; clear hZ
      cases ht : truth σ1 v with
      | none => rw [ht] at hp; exact hp.elim
      | some b =>
        rw [ht] at hp
        refine wpAny_bind (hT nm vm a env ρ σ g s A _ _ c1 F R hA (PostT.mk r1 ht fun g1 s1 e1 R1 => ?_))
        cases b with
        | false =>
          refine byC fun hZ => ?_
          refine byC fun hZ => ?_
          obtain ⟨v', σ', b', q1, q2, q3⟩ := hp.okT
          refine hZ ?_; clear hZ
          refine hZ ?_; clear hZ
          have q1 : Res.ok v σ1 = .ok v' σ' := q1
          cases q1
          rw [ht] at q2; cases q2
          exact wpAny_pure (q3 g1 s1 e1 R1)
        | true => exact hr.2 nm vm as env ρ σ1 g1 s1 A _ _ c2 (F.ext R e1) R1 hA (hp.shift e1)
theorem sndOr_cons {e : PE} {es : PEs} (hE : SndE C c d e) (hT : SndT C c d e) (hr : SndB C c d .Or (evOr c) es) : SndB C c d .Or (evOr c) (.cons e es) := by
  constructor
  · intro nm vm l env ρ σ g s A pos Q E hc F R hA hp
    refine byC fun hZ => ?_
    obtain ⟨a, as, rfl, c1, c2⟩ := chkEs_cons hc
    refine hZ ?_; clear hZ
    cases es with
    | nil =>
      rw [chkEs_nil c2]
      have hp : PostE C noOwn g s (ev c e 0 ρ σ) Q E := hp
      exact hE nm vm a env 0 ρ σ g s A _ _ c1 F R hA hp
    | cons e2 es2 =>
      refine byC fun hZ => ?_
      obtain ⟨a2, as2, rfl, c3, c4⟩ := chkEs_cons c2
      refine hZ ?_; clear hZ
      have hp : PostE C noOwn g s ((ev c e 0 ρ σ).bind fun v σ1 => pickB (truth σ1 v) (.ok v σ1) (evOr c (.cons e2 es2) ρ σ1)) Q E := hp
      refine byC fun hZ => ?_
      refine byC fun hZ => ?_
      obtain ⟨v, σ1, r1, hp⟩ := hp.bindE
      refine hZ ?_; clear hZ
      refine hZ ?_; clear hZ
      show wpAny _ _ (boolOp pos .Or (eval a env :: eval a2 env :: evalEach as2 env)) _ _ _
      refine wpAny_bind (hE nm vm a env 0 ρ σ g s A _ _ c1 F R hA (PostE.mk r1 fun g1 s1 x e1 R1 v1 => wpAny_bind (wpAny_standAt (wpAny_bind (wpAny_holding ?_)))))
      cases ht : truth σ1 v with
      | none => rw [ht] at hp; exact hp.elim
      | some b =>
        rw [ht] at hp
        refine truth_sound R1 v1 ht fun tk => ?_
        have e3 : Ext noOwn g s g1 { s1 with toks := tk } := e1.toks
        cases b with
        | true => exact wpAny_pure (hp g1 _ _ e3 R1 v1)
        | false => exact hr.1 nm vm (a2 :: as2) env ρ σ1 g1 { s1 with toks := tk } A pos _ _ c2 (F.ext R e3) R1 hA (hp.shift e3)
  · intro nm vm l env ρ σ g s A Q E hc F R hA hp
    refine byC fun hZ => ?_
    obtain ⟨a, as, rfl, c1, c2⟩ := chkEs_cons hc
    refine hZ ?_; clear hZ
    cases es with
    | nil =>
      rw [chkEs_nil c2]
      have hp : PostT C noOwn g s (ev c e 0 ρ σ) Q := hp
      refine byC fun hZ => ?_
      refine byC fun hZ => ?_
      obtain ⟨v, σ1, b, h1, h2, h3⟩ := hp.okT
      refine hZ ?_; clear hZ
      refine hZ ?_; clear hZ
      refine wpAny_bind (hT nm vm a env ρ σ g s A _ _ c1 F R hA (PostT.mk h1 h2 fun g1 s1 e1 R1 => ?_))
      cases b with
      | false => exact wpAny_pure (h3 g1 s1 e1 R1)
      | true => exact wpAny_pure (h3 g1 s1 e1 R1)
    | cons e2 es2 =>
      have hp : PostT C noOwn g s ((ev c e 0 ρ σ).bind fun v σ1 => pickB (truth σ1 v) (.ok v σ1) (evOr c (.cons e2 es2) ρ σ1)) Q := hp
      refine byC fun hZ => ?_
      refine byC fun hZ => ?_
      obtain ⟨v, σ1, r1, hp⟩ := hp.bindT
      refine hZ ?_; clear hZ
      refine hZ ?_; clear hZ
      cases ht : truth σ1 v with
      | none => rw [ht] at hp; exact hp.elim
      | some b =>
        rw [ht] at hp
        refine wpAny_bind (hT nm vm a env ρ σ g s A _ _ c1 F R hA (PostT.mk r1 ht fun g1 s1 e1 R1 => ?_))
        cases b with
        | true =>
          refine byC fun hZ => ?_
          refine byC fun hZ => ?_
          obtain ⟨v', σ', b', q1, q2, q3⟩ := hp.okT
          refine hZ ?_; clear hZ
          refine hZ ?_; clear hZ
          have q1 : Res.ok v σ1 = .ok v' σ' := q1
          cases q1
          rw [ht] at q2; cases q2
          exact wpAny_pure (q3 g1 s1 e1 R1)
        | false => exact hr.2 nm vm as env ρ σ1 g1 s1 A _ _ c2 (F.ext R e1) R1 hA (hp.shift e1)

theorem sndE_and {es : PEs} (h : SndB C c d .And (evAnd c) es) : SndE C c d (.andE es) := by
  intro nm vm e env m ρ σ g s A Q E hc F R hA hp
  refine byC fun hZ => ?_
  obtain ⟨op, vs, pos, rfl⟩ := fmBool hc
  refine hZ ?_; clear hZ
  cases op <;> try (exact absurd (show false = true from hc) Bool.false_ne_true)
  rw [arm_eval_BoolOp]
  exact h.1 nm vm vs env ρ σ g s A pos _ _ (show chkEs es nm vm vs = true from hc) F R hA hp
theorem sndT_and {es : PEs} (h : SndB C c d .And (evAnd c) es) : SndT C c d (.andE es) := by
  intro nm vm e env ρ σ g s A Q E hc F R hA hp
  refine byC fun hZ => ?_
  obtain ⟨op, vs, pos, rfl⟩ := fmBool hc
  refine hZ ?_; clear hZ
  cases op <;> try (exact absurd (show false = true from hc) Bool.false_ne_true)
  rw [arm_isTrue_BoolOp]
  exact h.2 nm vm vs env ρ σ g s A _ _ (show chkEs es nm vm vs = true from hc) F R hA hp
theorem sndE_or {es : PEs} (h : SndB C c d .Or (evOr c) es) : SndE C c d (.orE es) := by
  intro nm vm e env m ρ σ g s A Q E hc F R hA hp
  refine byC fun hZ => ?_
  obtain ⟨op, vs, pos, rfl⟩ := fmBool hc
  refine hZ ?_; clear hZ
  cases op <;> try (exact absurd (show false = true from hc) Bool.false_ne_true)
  rw [arm_eval_BoolOp]
  exact h.1 nm vm vs env ρ σ g s A pos _ _ (show chkEs es nm vm vs = true from hc) F R hA hp
theorem sndT_or {es : PEs} (h : SndB C c d .Or (evOr c) es) : SndT C c d (.orE es) := by
  intro nm vm e env ρ σ g s A Q E hc F R hA hp
  refine byC fun hZ => ?_
  obtain ⟨op, vs, pos, rfl⟩ := fmBool hc
  refine hZ ?_; clear hZ
  cases op <;> try (exact absurd (show false = true from hc) Bool.false_ne_true)
  rw [arm_isTrue_BoolOp]
  exact h.2 nm vm vs env ρ σ g s A _ _ (show chkEs es nm vm vs = true from hc) F R hA hp
end Mine

set_option autoImplicit false
set_option backward.match.sparseCases true
set_option linter.unusedVariables false
namespace Mine
open PySem PyProof.Rows PySem.SeqAt

variable {C : Fix} {c : Cx} {σ σ' : AH} {g g' : Cfg} {h h' : Heap} {s s' : Shared} {own : Addr → Prop} {A : Around} {d : Nat} {nm : NM} {vm : VM} {env : Env} {ρ : List PV}
  {Q : Value → Shared → Prop} {E : Value → Shared → Prop}

theorem evs_len : ∀ (pes : PEs) (l : List Expr) (m : Nat) (ρ : List PV) (σ σ' : AH) (vs : List PV), chkEs pes nm vm l = true → evs c pes m ρ σ = .ok vs σ' → vs.length = l.length
  | .nil, l, m, ρ, σ, σ', vs, hc, he => by
    rw [chkEs_nil hc, ← (ok_inj he).1]; rfl
  | .cons e es, l, m, ρ, σ, σ', vs, hc, he => by
    refine byC fun hZ => ?_
    obtain ⟨a, as, rfl, c1, c2⟩ := chkEs_cons hc
    obtain ⟨v, σ1, hr, he⟩ := bindX_inv he
    obtain ⟨ws, σ2, hr2, he⟩ := bindX_inv he
    refine hZ ?_; clear hZ
    rw [← (ok_inj he).1]
    exact congrArg Nat.succ (evs_len es as m ρ σ1 σ2 ws c2 hr2)

theorem sndE_tup {es : PEs} (h : SndEs C c d es) : SndE C c d (.tup es) := by
  intro nm vm e env m ρ σ g s A Q E hc F R hA hp
  refine byC fun hZ => ?_
  obtain ⟨elts, ctx, pos, rfl⟩ := fmTup hc
  obtain ⟨h1, h2⟩ := and2 (show (decide (elts.length < 1000) && chkEs es nm vm elts) = true from hc)
  have h1 := of_decide_eq_true h1
  refine hZ ?_; clear hZ
  show wpAny _ _ (standAt pos >>= fun _ => spliced (backTo pos (starEach elts env)) >>= newTuple) _ _ _
  rcases hp.bindXE with ⟨vs, σ1, r1, hp⟩ | ⟨k, σ1, r1, hp⟩
  rotate_left
  · exact wpAny_bind (wpAny_standAt (wpAny_bind (h nm vm elts env 0 ρ σ g s A pos _ _ h2 F R hA (PostL.ex r1 hp))))
  refine wpAny_bind (wpAny_standAt (wpAny_bind (h nm vm elts env 0 ρ σ g s A pos _ _ h2 F R hA (PostL.mk r1 fun g1 s1 xs e1 R1 v1 => ?_))))
  have hl := evs_len es elts 0 ρ σ σ1 vs h2 r1
  have hl2 := v1.length
  have hp1 : PostO C σ1 g1 s1 (some (.v (.tup vs))) Q := fun g2 s2 x e2 R2 v2 => hp g2 s2 x (e1.trans e2) R2 v2
  exact wpAny_newTuple (hp1.push (tk := s1.toks) R1 (tupObj_vr (n := 0) (by simpa using v1))) (by rw [sizeLine_eq]; exact om302 h1 hl hl2)

theorem sndE_lst {es : PEs} (h : SndEs C c d es) : SndE C c d (.lst es) := by
  intro nm vm e env m ρ σ g s A Q E hc F R hA hp
  refine byC fun hZ => ?_
  obtain ⟨elts, pos, rfl⟩ := fmLst hc
  obtain ⟨h1, h2⟩ := and2 (show (decide (elts.length < 1000) && chkEs es nm vm elts) = true from hc)
  have h1 := of_decide_eq_true h1
  obtain ⟨vs, σ1, r1, hp⟩ := hp.bindE
  refine hZ ?_; clear hZ
  show wpAny _ _ (standAt pos >>= fun _ => spliced (backTo pos (starEach elts env)) >>= newList) _ _ _
  refine wpAny_bind (wpAny_standAt (wpAny_bind (h nm vm elts env _ ρ σ g s A pos _ _ h2 F R hA (PostL.mk r1 fun g1 s1 xs e1 R1 v1 => ?_))))
  have hl := evs_len es elts _ ρ σ σ1 vs h2 r1
  have hl2 := v1.length
  have hp1 : PostO C σ1 g1 s1 (some (.f (.list vs))) Q := fin_sound (m := m) (E := E) (hp.shift e1)
  exact wpAny_newList (hp1.made (tk := s1.toks) R1 (listObj_frs R1 (n := 0) (by simpa using v1))) (by rw [sizeLine_eq]; exact om302 h1 hl hl2)

theorem sndE_edict : SndE C c d .edict := by
  intro nm vm e env m ρ σ g s A Q E hc F R hA hp
  obtain ⟨pos, rfl⟩ := fmEDict hc
  show wpAny _ _ (standAt pos >>= fun _ => dictDisplay []) _ _ _
  refine wpAny_bind (wpAny_standAt ?_)
  have hp1 : PostO C σ g s (some (.f (.dict []))) Q := fin_sound (m := m) (E := E) hp
  show wpAny _ _ (newDict) _ _ _
  refine wpAny_newObj_type (hp1.made (tk := s.toks) R ⟨[], Heap.DictOf.new s.heap, .nil⟩)

theorem sndE_idx {a i : PE} (ha : SndE C c d a) (hi : SndE C c d i) : SndE C c d (.idx a i) := by
  intro nm vm e env m ρ σ g s A Q E hc F R hA hp
  refine byC fun hZ => ?_
  obtain ⟨v, ix, pos, rfl⟩ := fmSub hc
  obtain ⟨h1, h2⟩ := and2 (show (chkE a nm vm v && chkE i nm vm ix) = true from hc)
  obtain ⟨x, σ1, r1, hp⟩ := hp.bindE
  obtain ⟨y, σ2, r2, hp⟩ := hp.bindE
  refine hZ ?_; clear hZ
  refine Subscript_ (ha nm vm v env 0 ρ σ g s A _ _ h1 F R hA (PostE.mk r1 fun g1 s1 vx e1 R1 v1 => ?_))
  refine hi nm vm ix env 0 ρ σ1 g1 s1 A _ _ h2 (F.ext R e1) R1 hA (PostE.mk r2 fun g2 s2 vy e2 R2 v2 => ?_)
  refine getAt_tail R2 (VR_ext R1 e2 Off.none v1) v2 ?_ (fin_sound (m := 0) (E := E) (hp.shift (e1.trans e2)))
  have := chk_plain h2
  cases ix <;> first | rfl | cases this

theorem evalArgs_any {M : Model} {f : Value} {es : List Expr} {pes : PEs} {Q : Args → Shared → Prop} {pos : Pos} (hc : chkEs pes nm vm es = true)
    (h : wpAny M A (spliced (backTo pos (starEach es env))) (fun vs s' => Q ⟨vs, []⟩ s') E s) : wpAny M A (evalArgs f true (backTo pos (starEach es env)) []) Q E s := by
  cases pes with
  | nil =>
    rw [chkEs_nil hc] at h ⊢
    unfold evalArgs
    refine wpAny_bind (wpAny_mono h (fun vs s' h' => wpAny_bind (wpAny_pure ?_)) fun _ _ x => x)
    refine wpAny_holding ?_
    exact wpAny_bind (wpAny_pure (wpAny_bind (wpAny_pure (wpAny_pure h'))))
  | cons e es' =>
    refine byC fun hZ => ?_
    obtain ⟨a, as, rfl, c1, c2⟩ := chkEs_cons hc
    refine hZ ?_; clear hZ
    have e1 : backTo pos (starEach (a :: as) env) = (false, eval a env) :: backTo pos (starEach as env) := by rw [starEach_plain (chk_plain c1)]; rfl
    rw [e1] at h ⊢
    exact Calls.evalArgs_plain h
theorem plain_args : ∀ (pes : PEs) (es : List Expr) {pos : Pos}, chkEs pes nm vm es = true → (backTo pos (starEach es env)).any (·.1) = false
  | .nil, es, pos, hc => by rw [chkEs_nil hc]; rfl
  | .cons e es', es, pos, hc => by
    refine byC fun hZ => ?_
    obtain ⟨a, as, rfl, c1, c2⟩ := chkEs_cons hc
    refine hZ ?_; clear hZ
    have e1 : backTo pos (starEach (a :: as) env) = (false, eval a env) :: backTo pos (starEach as env) := by rw [starEach_plain (chk_plain c1)]; rfl
    rw [e1, List.any_cons, plain_args es' as c2]; rfl

theorem call_chk {f : Str} {args : PEs} {e : Expr} (hc : chkE (.call f args) nm vm e = true) : ∃ p as pos, e = .Call (.Name f p) as [] pos ∧ isGlob (nm.lookup f) = true ∧ plainName f = true ∧ noDot f = true ∧ chkEs args nm vm as = true := by
  refine byC fun hZ => ?_
  obtain ⟨fe, as, pos, rfl⟩ := fmCall hc
  obtain ⟨x, p, rfl⟩ := fmName hc
  obtain ⟨h1230, h4⟩ := and2 (show (x == f && isGlob (nm.lookup x) && plainName x && noDot f && chkEs args nm vm as) = true from hc)
  obtain ⟨h123, h0⟩ := and2 h1230
  obtain ⟨h12, h3⟩ := and2 h123
  obtain ⟨h1, h2⟩ := and2 h12
  refine hZ ?_; clear hZ
  have h1 : x = f := by simpa using h1
  subst h1
  exact ⟨p, as, pos, rfl, h2, h3, h0, h4⟩

theorem eval_Call_Name (x : Str) (p : Pos) (as : List Expr) (pos : Pos) : eval (.Call (.Name x p) as [] pos) env = (do callWith pos (← eval (.Name x p) env) [] (backTo pos (starEach as env)) []) := rfl

theorem sndE_call (K : C.OK) (X : CxOK C c d) {f : Str} {args : PEs} (h : SndEs C c d args) : SndE C c d (.call f args) := by
  intro nm vm e env m ρ σ g s A Q E hc F R hA hp
  refine byC fun hZ => ?_
  obtain ⟨p, as, pos, rfl, h2, h3, h0, h4⟩ := call_chk hc
  have hr : ∃ r, evs c args 0 ρ σ = r := ⟨_, rfl⟩
  obtain ⟨r, hr⟩ := hr
  have hp : PostE C noOwn g s (r.bindA (c.atr f) fun vs σ1 => c.cal f vs σ1) Q E := hr ▸ hp
  obtain ⟨a, o, fd, z1, z2, z3⟩ : ∃ a o fd, C.mg f = some (.ref a) ∧ C.B.get? a = some o ∧ o.data = .func fd := by
    rcases r with ⟨vs, σ1⟩ | ⟨k, σ1⟩ | _
    · exact X.fnv f vs σ1 h0 fun q => by rw [Res.bindA, q] at hp; exact hp
    · cases hq : c.atr f with
      | false => rw [hq] at hp; exact hp.elim
      | true => exact X.fns f h0 hq
    · exact hp.elim
  refine hZ ?_; clear hZ
  rw [eval_Call_Name]
  refine wpAny_bind (Calls.Name_function_global F.kind (isGlob_kind F h2) (Calls.loadGlobal_global (globNs K R F) z1 ?_) (plainName_debug h3))
  rcases r with ⟨vs, σ1⟩ | ⟨k, σ1⟩ | _
  · refine Calls.callWith_function (o := o) (fd := fd) (evalArgs_any h4 (h nm vm as env 0 ρ σ g s A pos _ _ h4 F R hA (PostL.mk hr fun g1 s1 xs e1 R1 v1 => ⟨⟨R1.rel.base a o z2, z3⟩, ?_⟩)))
    exact X.cal f a vs xs σ1 g1 s1 A Q E h0 z1 hA R1 v1 (F.ext R e1).full (PostE.toC (F.ext R e1).full (PostE.shift e1 hp))
  · have hp : ∀ s' e, Thrown C noOwn g s σ1 k e s' → E (.ref e) s' := by
      cases hq : c.atr f with
      | false => rw [hq] at hp; exact hp.elim
      | true => rw [hq] at hp; exact hp
    exact Calls.callWith_function (o := o) (fd := fd) (evalArgs_any h4 (h nm vm as env 0 ρ σ g s A pos _ _ h4 F R hA (PostL.ex hr hp)))
  · exact hp.elim


theorem boot_bi (K : C.OK) (b : BI) : C.mb b.word = some b.callee := by
  cases b
  case isinst t =>
    show C.mb "isinstance" = some (.builtin "isinstance")
    rw [K.builtins _ (by decide)]; decide +kernel
  all_goals (rw [K.builtins _ (by decide)]; decide +kernel)
theorem boot_ty (K : C.OK) (t : Ty) : C.mb t.word = some t.val := by
  cases t <;> (rw [K.builtins _ (by decide)]; decide +kernel)
theorem bi_words (b : BI) : b.word ∈ biWords := by
  cases b
  case isinst t => show ("isinstance" : Str) ∈ biWords; decide
  all_goals decide
theorem ty_words (t : Ty) : t.word ∈ biWords := by cases t <;> decide

theorem name_bi (K : C.OK) (X : CxOK C c d) (F : FR C nm vm env ρ g s.heap) (R : C.Rel σ g s.heap) {x : Str} {p : Pos} {v : Value} (h2 : isGlob (nm.lookup x) = true) (h3 : plainName x = true) (hw : x ∈ biWords) (hv : C.mb x = some v) (h : Q v s) :
    wpAny (model C.prog C.w) A (eval (.Name x p) env) Q E s :=
  Calls.Name_function_global F.kind (isGlob_kind F h2) (Calls.loadGlobal_builtin (globNs K R F) (X.bi x hw) (bltNs K R F) hv h) (plainName_debug h3)

noncomputable def BI.plain : BI → Bool
  | .isinst _ => false
  | _ => true

theorem nameOf_eq {e : Expr} {x : Str} (h : nameOf e = some x) : ∃ p, e = .Name x p := by
  cases e <;> first | exact ⟨_, congrArg (Expr.Name · _) (Option.some.inj h)⟩ | cases h
theorem firstTwo_eq {l : List Expr} {p : Expr × Expr} (h : firstTwo l = some p) : l = [p.1, p.2] := by
  rcases l with _ | ⟨a, _ | ⟨b, _ | ⟨c, l⟩⟩⟩ <;> cases h
  rfl
theorem if_some {α : Type} {p : Prop} [Decidable p] {a b : α} (h : (if p then some a else none) = some b) : p ∧ a = b := by
  by_cases q : p
  · rw [if_pos q] at h; exact ⟨q, Option.some.inj h⟩
  · rw [if_neg q] at h; cases h
theorem isinst_args {t : Ty} {as l : List Expr} (h : biArgs nm (.isinst t) as = some l) : ∃ e y p', as = [e, .Name y p'] ∧ y = t.word ∧ isGlob (nm.lookup y) = true ∧ plainName y = true ∧ l = [e] := by
  refine byC fun hZ => ?_
  obtain ⟨p, h1, h⟩ := Option.bind_eq_some_iff.mp (show (firstTwo as).bind _ = some l from h)
  obtain ⟨y, h2, h⟩ := Option.bind_eq_some_iff.mp h
  obtain ⟨h3, h⟩ := if_some h
  obtain ⟨h4, h5⟩ := and2 h3
  obtain ⟨h6, h7⟩ := and2 h4
  obtain ⟨p', h8⟩ := nameOf_eq h2
  refine hZ ?_; clear hZ
  exact ⟨p.1, y, p', by rw [firstTwo_eq h1, h8], by simpa using h6, h7, h5, h.symm⟩
theorem bi_call {b : BI} {args : PEs} {e : Expr} (hc : chkE (.bi b args) nm vm e = true) : ∃ fe as pos, e = .Call fe as [] pos ∧ ∃ x p, fe = .Name x p := by
  refine byC fun hZ => ?_
  obtain ⟨fe, as, pos, rfl⟩ := fmCall hc
  obtain ⟨x, p, rfl⟩ := fmName hc
  refine hZ ?_; clear hZ
  exact ⟨_, as, pos, rfl, x, p, rfl⟩
theorem bi_chk {b : BI} {args : PEs} {e : Expr} (hc : chkE (.bi b args) nm vm e = true) : ∃ x p as pos, e = .Call (.Name x p) as [] pos ∧ isGlob (nm.lookup x) = true ∧ x = b.word ∧ plainName x = true ∧
    ((b.plain = true ∧ chkEs args nm vm as = true) ∨ (∃ t e y p', b = .isinst t ∧ as = [e, .Name y p'] ∧ y = t.word ∧ isGlob (nm.lookup y) = true ∧ plainName y = true ∧ chkEs args nm vm [e] = true)) := by
  refine byC fun hZ => ?_
  obtain ⟨_, as, pos, rfl, x, p, rfl⟩ := bi_call hc
  obtain ⟨h123, h4⟩ := and2 hc
  obtain ⟨h12, h3⟩ := and2 h123
  obtain ⟨h1, h2⟩ := and2 h12
  refine hZ ?_; clear hZ
  refine ⟨x, p, as, pos, rfl, h1, by simpa using h2, h3, ?_⟩
  cases hl : biArgs nm b as with
  | none => rw [hl] at h4; exact absurd h4 Bool.false_ne_true
  | some l =>
    rw [hl] at h4
    have h4 : chkEs args nm vm l = true := h4
    cases b with
    | isinst t =>
      refine byC fun hZ => ?_
      obtain ⟨e, y, p', q1, q2, q3, q4, rfl⟩ := isinst_args hl
      refine hZ ?_; clear hZ
      exact .inr ⟨t, e, y, p', rfl, q1, q2, q3, q4, h4⟩
    | _ => cases hl; exact .inl ⟨rfl, h4⟩

theorem sndE_bi (K : C.OK) (X : CxOK C c d) {b : BI} {args : PEs} (h : SndEs C c d args) (hh : ∀ e es, args = .cons e es → SndE C c d e) : SndE C c d (.bi b args) := by
  intro nm vm e env m ρ σ g s A Q E hc F R hA hp
  refine byC fun hZ => ?_
  obtain ⟨x, p, as, pos, rfl, h1, h2, h3, h4⟩ := bi_chk hc
  obtain ⟨vs, σ1, r1, hp⟩ := hp.bindE
  refine hZ ?_; clear hZ
  rw [eval_Call_Name]
  refine wpAny_bind (name_bi K X F R h1 h3 (h2 ▸ bi_words b) (h2 ▸ boot_bi K b) ?_)
  have hp1 : ∀ {g1 s1}, Ext noOwn g s g1 s1 → PostO C σ1 g1 s1 (biP σ1 b vs) Q := fun e1 => fin_sound (m := m) (E := E) (hp.shift e1)
  rcases h4 with ⟨hb1, h4⟩ | ⟨t, e, y, p', rfl, rfl, h5, h6, h7, h8⟩
  · have key : ∀ {g1 s1 xs}, Ext noOwn g s g1 s1 → C.Rel σ1 g1 s1.heap → C.VRs g1 s1.heap vs xs → wpAny (model C.prog C.w) A (call b.callee xs) Q E s1 := fun e1 R1 v1 => by
      have := bi_sound (E := E) K hA R1 v1 (hp1 e1)
      have hm : b.more = [] := by cases b <;> first | rfl | cases hb1
      rw [hm, List.append_nil] at this
      exact this
    have hargs := fun (P : List Value → Shared → Prop) (hP : ∀ g' s' x, Ext noOwn g s g' s' → C.Rel σ1 g' s'.heap → C.VRs g' s'.heap vs x → P x s') => h nm vm as env 0 ρ σ g s A pos P E h4 F R hA (PostL.mk r1 hP)
    have hplain := plain_args (env := env) args as (pos := pos) h4
    cases b
    case isinst => cases hb1
    all_goals first
      | exact Calls.callWith_builtin hplain (evalArgs_any h4 (hargs _ fun g1 s1 xs e1 R1 v1 => key e1 R1 v1))
      | exact PySem.callWith_type hplain (evalArgs_any h4 (hargs _ fun g1 s1 xs e1 R1 v1 => key e1 R1 v1))
  · obtain ⟨pe, hpe⟩ : ∃ pe, args = .cons pe .nil := by
      cases args with
      | nil => cases h8
      | cons pe pes => cases pes with
        | nil => exact ⟨pe, rfl⟩
        | cons => obtain ⟨_, _, q, _, q2⟩ := chkEs_cons h8; cases q; cases q2
    have hst : backTo pos (starEach [e, .Name y p'] env) = backTo pos (starEach [e] env) ++ [(false, eval (.Name y p') env)] := by
      obtain ⟨_, _, q, q1, _⟩ := chkEs_cons (hpe ▸ h8); cases q
      rw [starEach_plain (chk_plain q1), starEach_plain (chk_plain q1)]; rfl
    obtain ⟨_, _, q, q1, _⟩ := chkEs_cons (hpe ▸ h8); cases q
    have e1 : backTo pos (starEach [e] env) = [(false, eval e env)] := by rw [starEach_plain (chk_plain q1)]; rfl
    rw [hst, e1]
    have hE := hh pe .nil hpe
    subst hpe
    refine byC fun hZ => ?_
    obtain ⟨v, σ2, hr, r1⟩ := bindX_inv r1
    obtain ⟨ws, σ3, hr3, r1⟩ := bindX_inv r1
    obtain ⟨rfl, rfl⟩ := ok_inj hr3
    obtain ⟨rfl, rfl⟩ := ok_inj r1
    refine hZ ?_; clear hZ
    refine Calls.callWith_builtin rfl (Calls.evalArgs_plain (Calls.spliced_cons (hE nm vm e env 0 ρ σ g s A _ _ q1 F R hA (PostE.mk hr fun g1 s1 x x1 R1 v1 => ?_))))
    refine Calls.spliced_cons (name_bi K X (F.ext R x1) R1 h6 h7 (h5 ▸ ty_words t) (h5 ▸ boot_ty K t) (Calls.spliced_nil ?_))
    exact bi_sound (E := E) K hA R1 (.cons v1 .nil) (hp1 x1)
theorem ty_list (R : C.Rel σ g s.heap) {v : PV} {x : Value} (hv : C.VR g s.heap v x) (ht : isTy σ .list v = some true) : ∃ a ob, x = .ref a ∧ s.heap.get? a = some ob ∧ ob.cls = .type "list" ∧ ob.dict = none := by
  have hd := deref_sound R hv
  have ht : isTyD .list (deref σ v) = some true := ht
  generalize deref σ v = w at hd ht
  cases w with
  | lst l => obtain ⟨a, vs, rfl, ⟨n, e⟩, _⟩ := hd; exact ⟨_, _, rfl, e, rfl, rfl⟩
  | _ => cases ht
theorem ty_dict (R : C.Rel σ g s.heap) {v : PV} {x : Value} (hv : C.VR g s.heap v x) (ht : isTy σ .dict v = some true) : ∃ a kvs, x = .ref a ∧ s.heap.DictOf (strKind C.prog C.w) a kvs := by
  have hd := deref_sound R hv
  have ht : isTyD .dict (deref σ v) = some true := ht
  generalize deref σ v = w at hd ht
  cases w with
  | dct l => obtain ⟨a, kvs, rfl, _, h1, _⟩ := hd; exact ⟨_, _, rfl, h1⟩
  | _ => cases ht

theorem method_on (R : C.Rel σ g s.heap) {m : BM} {v : PV} {x : Value} {pos : Pos} {trees : List (Bool × Sem Value)} (hv : C.VR g s.heap v x) (ht : isTy σ m.ty v = some true)
    (h : wpAny (model C.prog C.w) A (callWith pos (.builtin m.id) [x] trees []) Q E s) : MethodOnS C.prog C.w A E m.word x pos trees Q s := by
  cases m with
  | append =>
    refine byC fun hZ => ?_
    obtain ⟨a, ob, rfl, h1, h2, h3⟩ := ty_list R hv ht
    refine hZ ?_; clear hZ
    exact ⟨"list", _, PySem.F.plainAttrs_list, PySem.slot_list_append, PySem.type_list_append, ⟨ob, h1, h2⟩, fun b e => by cases e; exact ⟨ob, h1, h3⟩, h⟩
  | pop =>
    obtain ⟨a, kvs, rfl, h1⟩ := ty_dict R hv ht
    exact ⟨"dict", _, PySem.F.plainAttrs_dict, PySem.F.slot_dict_pop, PySem.F.type_dict_pop, h1.typeIs, h1.mapOf.noDict, h⟩

theorem base_plain {o : Expr} {name : Str} {whole : Sem Value} (h : plainBase o = true) : attributeBase o name env whole = whole := by
  rcases Bool.or_eq_true_iff.mp (show ((asName o).isSome || (asAttr o).isSome) = true from h) with h | h
  · obtain ⟨⟨q, e⟩, _⟩ := Option.isSome_iff_exists.mp h
    subst e; rfl
  · obtain ⟨⟨q, e⟩, _⟩ := Option.isSome_iff_exists.mp h
    subst e; rfl

theorem meth_chk {o : PE} {m : BM} {args : PEs} {e : Expr} (hc : chkE (.meth o m args) nm vm e = true) : ∃ o' apos as pos, e = .Call (.Attribute o' m.word apos) as [] pos ∧ plainBase o' = true ∧ (apos.endLine == pos.line) = true ∧ as.length < 20 ∧ chkE o nm vm o' = true ∧ chkEs args nm vm as = true := by
  refine byC fun hZ => ?_
  obtain ⟨fe, as, pos, rfl⟩ := fmCall hc
  obtain ⟨o', name, apos, rfl⟩ := fmAttr hc
  obtain ⟨h12345, h6⟩ := and2 hc
  obtain ⟨h1234, h5⟩ := and2 h12345
  obtain ⟨h123, h4⟩ := and2 h1234
  obtain ⟨h12, h3⟩ := and2 h123
  obtain ⟨h1, h2⟩ := and2 h12
  refine hZ ?_; clear hZ
  have h1 : name = m.word := by simpa using h1
  subst h1
  exact ⟨o', apos, as, pos, rfl, h2, h3, of_decide_eq_true h4, h5, h6⟩

theorem sndE_meth {o : PE} {m : BM} {args : PEs} (ho : SndE C c d o) (h : SndEs C c d args) : SndE C c d (.meth o m args) := by
  intro nm vm e env md ρ σ g s A Q E hc F R hA hp
  refine byC fun hZ => ?_
  obtain ⟨o', apos, as, pos, rfl, h1, h2, h3, h4, h5⟩ := meth_chk hc
  obtain ⟨x, σ1, r1, hp⟩ := hp.bindE
  refine hZ ?_; clear hZ
  split at hp
  · rename_i ht
    refine byC fun hZ => ?_
    obtain ⟨vs, σ2, r2, hp⟩ := hp.bindE
    refine hZ ?_; clear hZ
    have hplain := plain_args (env := env) args as (pos := pos) h5
    refine wpAny_Call_method_lateS (base_plain h1) ?_ h2 (ho nm vm o' env 0 ρ σ g s A _ _ h4 F R hA (PostE.mk r1 fun g1 s1 vx e1 R1 v1 => method_on R1 v1 ht ?_))
    · have : (backTo pos (starEach as env)).all (fun x => !x.1) = true := by
        rw [List.all_eq_true]; intro y hy
        rw [List.any_eq_false] at hplain
        simpa using hplain y hy
      rw [this]
      simp only [Bool.true_and]
      show (true && decide (as.length + 0 + 0 < 30)) = true
      simp; exact om301 h3
    · refine Calls.callWith_builtin hplain (evalArgs_any h5 (h nm vm as env 0 ρ σ1 g1 s1 A pos _ _ h5 (F.ext R e1) R1 hA (PostL.mk r2 fun g2 s2 xs e2 R2 v2 => ?_)))
      refine bm_sound hA R2 (VR_ext R1 e2 Off.none v1) v2 ?_
      cases hq : bmP σ2 m x vs with
      | none => rw [hq] at hp; exact hp.elim
      | some q => rw [hq] at hp; exact fun g3 s3 y e3 R3 v3 => hp g3 s3 y ((e1.trans e2).trans e3) R3 v3
  · exact hp.elim
end Mine

set_option autoImplicit false
namespace Mine
open PySem
noncomputable def cutOne (h : Heap) (L : Addr) : Heap := h.update L fun o => { o with data := .freed }
noncomputable def cutAll (h : Heap) : List Addr → Heap
  | [] => h
  | L :: ls => cutAll (cutOne h L) ls
theorem cutOne_self (h : Heap) (L : Addr) : (cutOne h L).get? L = none := by
  cases hq : (cutOne h L).get? L with
  | none => rfl
  | some o =>
    exfalso
    obtain ⟨h1, h2⟩ := Heap.get?_some_iff.mp hq
    obtain ⟨objs, l⟩ := h
    simp only [cutOne, Heap.update] at h1
    rw [Array.getElem?_modify] at h1
    simp only [if_true] at h1
    obtain ⟨o', _, rfl⟩ := Option.map_eq_some_iff.mp h1
    cases h2
theorem cutOne_other (h : Heap) {L b : Addr} (hb : b ≠ L) : (cutOne h L).get? b = h.get? b := Heap.get?_update_other _ _ (Ne.symm hb)
theorem cutOne_some {h : Heap} {L b : Addr} {o : Obj} (e : (cutOne h L).get? b = some o) : b ≠ L ∧ h.get? b = some o := by
  by_cases q : b = L
  · subst q; rw [cutOne_self] at e; cases e
  · exact ⟨q, by rw [← cutOne_other h q]; exact e⟩
theorem cutAll_some : ∀ {ls : List Addr} {h : Heap} {b : Addr} {o : Obj}, (cutAll h ls).get? b = some o → b ∉ ls ∧ h.get? b = some o
  | [], _, _, _, e => ⟨List.not_mem_nil, e⟩
  | L :: ls, h, b, o, e => by
    obtain ⟨h1, h2⟩ := cutAll_some (ls := ls) e
    obtain ⟨h3, h4⟩ := cutOne_some h2
    exact ⟨fun hm => (List.mem_cons.mp hm).elim h3 h1, h4⟩
theorem cutAll_keep : ∀ {ls : List Addr} {h : Heap} {b : Addr}, b ∉ ls → (cutAll h ls).get? b = h.get? b
  | [], _, _, _ => rfl
  | L :: ls, h, b, hb => by
    show (cutAll (cutOne h L) ls).get? b = _
    rw [cutAll_keep (fun q => hb (List.mem_cons_of_mem _ q)), cutOne_other h fun q => hb (List.mem_cons.mpr (.inl q))]
theorem cutAll_mem {ls : List Addr} {h : Heap} {b : Addr} (hb : b ∈ ls) : (cutAll h ls).get? b = none := by
  cases q : (cutAll h ls).get? b with
  | none => rfl
  | some o => exact absurd hb (cutAll_some q).1
theorem cutAll_stays {ls : List Addr} {h h' : Heap} (k : ∀ b o, b ∉ ls → h.get? b = some o → h'.get? b = some o) : (cutAll h ls).StaysIn h' := fun b o e => let ⟨h1, h2⟩ := cutAll_some e; k b o h1 h2
structure Stk (g : Cfg) (h : Heap) (l : List Env) : Prop where
  kind : ∀ e ∈ l, e.scope.kind ≠ .module
  there : ∀ e ∈ l, ∃ L o, e.frame = some L ∧ h.get? L = some o ∧ (∀ vs, o.data ≠ .fields vs) ∧ L ∉ g.μ ∧ ¬ g.Φ L
end Mine

set_option autoImplicit false
set_option backward.match.sparseCases true
set_option linter.unusedVariables false
namespace Mine
open PySem PyProof.Rows PySem.SeqAt

variable {C : Fix} {c : Cx} {σ σ' : AH} {g g' : Cfg} {h h' : Heap} {s s' s2 : Shared} {own : Addr → Prop} {A : Around} {d : Nat} {nm : NM} {vm : VM} {env : Env} {ρ : List PV}
  {E : Value → Shared → Prop} {lv : Addr → Prop} {k : Str} {e : Addr} {base : Heap}

theorem dD_nf {o : Obj} (hd : dD o = true) : ∀ vs, o.data ≠ .fields vs := fun vs q => by have hd : dDd o.data = true := hd; rw [q] at hd; cases hd
theorem StkC.frames (S : StkC C g h) (hk : ∀ e ∈ C.fs, e.scope.kind ≠ .module ∧ ∃ L, e.frame = some L) (hb : ∀ L ∈ frs C, base.get? L = none) : h.FunFrames base C.fs := by
  have key : ∀ l : List Env, (∀ e ∈ l, e ∈ C.fs) → h.FunFrames base l := by
    intro l
    induction l with
    | nil => intro _; trivial
    | cons e l ih =>
      intro hl
      refine byC fun hZ => ?_
      obtain ⟨h1, L, h2⟩ := hk e (hl e (List.mem_cons_self ..))
      have hL : L ∈ frs C := List.mem_filterMap.mpr ⟨e, hl e (List.mem_cons_self ..), h2⟩
      obtain ⟨_, _, o, h3, h4⟩ := S L hL
      refine hZ ?_; clear hZ
      exact ⟨h1, ⟨L, o, h2, hb L hL, h3, dD_nf h4⟩, ih fun e' q => hl e' (List.mem_cons_of_mem _ q)⟩
  exact key C.fs fun e q => q

theorem Ext.fly (x : Ext own g s g' s2) (R : C.Rel σ' g' s2.heap) (S : StkC C g' s2.heap) (hb : InBase C (lvs s) g' base s2.heap) (st : base.StaysIn h') (up : s2.heap.UpToSlots h') :
    Ext own g s g' { s2 with heap := h' } ∧ C.Rel σ' g' h' ∧ InBase C (lvs s) g' base h' ∧ StkC C g' h' := by
  have ex : ∀ b o, s2.heap.get? b = some o → (b ∈ g'.μ ∨ g'.Φ b ∨ (lvs s b ∧ b ∉ frs C)) → h'.get? b = some o := fun b o e q => st b o (hb b o e q)
  have fr : ∀ b o, s2.heap.get? b = some o → b ∈ frs C → ∃ o', h'.get? b = some o' ∧ Sim o o' := fun b o e q => by
    refine byC fun hZ => ?_
    obtain ⟨_, _, o2, h3, h4⟩ := S b q
    refine hZ ?_; clear hZ
    rw [e] at h3; cases h3
    obtain ⟨sl, h5⟩ := up b o e (dD_nf h4)
    exact ⟨_, h5, .inr ⟨h4, sl, rfl⟩⟩
  refine ⟨⟨x.pre, x.sub, x.newμ, x.newΦ, x.lock, fun b o e h1 h2 => ?_, fun b o e h1 h2 => ?_, fun b hl => ?_, x.gens, x.os⟩, R.kept fun b o e q => ex b o e (q.imp id .inl), fun b o e q => ?_, fun L hL => ?_⟩
  · refine byC fun hZ => ?_
    obtain ⟨o1, h3, h4⟩ := x.keep b o e h1 h2
    refine hZ ?_; clear hZ
    by_cases q : b ∈ frs C
    · obtain ⟨o2, h5, h6⟩ := fr b o1 h3 q; exact ⟨o2, h5, h4.trans h6⟩
    · exact ⟨o1, ex b o1 h3 (.inr (.inr ⟨isSome_of e, q⟩)), h4⟩
  · refine ex b o (x.keepF b o e h1 h2) ?_
    rcases h1 with h1 | h1
    · exact .inr (.inl (x.sub b h1.2))
    · exact .inl (R.rel.lkμ b (by rw [x.lock]; exact h1))
  · obtain ⟨o1, h3⟩ := Option.isSome_iff_exists.mp (x.live b hl)
    by_cases q : b ∈ frs C
    · obtain ⟨o2, h5, _⟩ := fr b o1 h3 q; exact isSome_of h5
    · exact isSome_of (ex b o1 h3 (.inr (.inr ⟨hl, q⟩)))
  · have hl : (s2.heap.get? b).isSome = true := by
      rcases q with q | q | q
      · cases hq : s2.heap.get? b with
        | none => exact absurd q (R.fresh hq).1
        | some o => rfl
      · exact R.rel.live b q
      · exact x.live b q.1
    obtain ⟨o1, h3⟩ := Option.isSome_iff_exists.mp hl
    have h4 := ex b o1 h3 q
    rw [e] at h4; cases h4
    exact hb b o h3 q
  · refine byC fun hZ => ?_
    obtain ⟨h1, h2, o, h3, h4⟩ := S L hL
    obtain ⟨o', h5, h6⟩ := fr L o h3 hL
    refine hZ ?_; clear hZ
    exact ⟨h1, h2, o', h5, h6.dD h4⟩

theorem XM.bas (x : XM C lv g k e h) (hk : ∀ e ∈ C.fs, e.scope.kind ≠ .module ∧ ∃ L, e.frame = some L) : ∃ I base h0 vs, C.exc k = some I ∧ Heap.MadeExcOf h0 h e (.ref I) vs ∧ base.StaysIn h0 ∧ h0.FunFrames base C.fs ∧ InBase C lv g base h := by
  refine byC fun hZ => ?_
  obtain ⟨I, h0, vs, h1, h2, h3, h4⟩ := x
  refine hZ ?_; clear hZ
  refine ⟨I, cutAll h0 (frs C), h0, vs, h1, h2, cutAll_stays fun b o _ q => q, h3.frames hk fun L q => cutAll_mem q, fun b o e q => ?_⟩
  have hn : b ∉ frs C := fun m => by
    refine byC fun hZ => ?_
    obtain ⟨a1, a2, _⟩ := h3 b m
    refine hZ ?_; clear hZ
    rcases q with q | q | q
    · exact a1 q
    · exact a2 q
    · exact q.2 m
  rw [cutAll_keep hn]
  obtain ⟨o', h5⟩ := Option.isSome_iff_exists.mp (h4 b (q.imp id fun q => q.imp id And.left))
  rw [h5, ← e, h2.keeps b o' h5]

theorem note_thrown {M : Model} {Q : Unit → Shared → Prop} (hA : A.frames = some C.fs) (hk : ∀ e ∈ C.fs, e.scope.kind ≠ .module ∧ ∃ L, e.frame = some L) (hT : C.fs.head? = some env) (x : Ext own g s g' s2) (R : C.Rel σ' g' s2.heap) (S : StkC C g' s2.heap) (y : XS C (lvs s) g' k e s2.heap)
    (hq : ∀ h', Ext own g s g' { s2 with heap := h' } → C.Rel σ' g' h' → XH C (lvs s) g' k e h' → StkC C g' h' → Q () { s2 with heap := h' }) : wpAny M A (noteFrame (.ref e) env) Q E s2 := by
  obtain ⟨l, hl⟩ : ∃ l, C.fs = env :: l := by
    cases hf : C.fs with
    | nil => rw [hf] at hT; cases hT
    | cons a l => rw [hf] at hT; cases hT; exact ⟨l, rfl⟩
  obtain ⟨_, L, hL⟩ := hk env (by rw [hl]; exact List.mem_cons_self ..)
  rcases y with ⟨I, base, a0, h1, h2, h3⟩ | y | ⟨I, base, a0, env', l', L', h1, h2, h3, h4, h5⟩
  · rw [hl] at h2
    refine wpAny_looks_onW (hl ▸ hA) hL h2 fun h' hh hu => ?_
    obtain ⟨a1, a2, a3, a4⟩ := x.fly R S h3 hh.1 hu
    exact hq h' a1 a2 ⟨I, base, a0, env, l, L, h1, hl, hL, hl ▸ hh, a3⟩ a4
  · refine byC fun hZ => ?_
    obtain ⟨I, base, h0, vs, h1, h2, h3, h4, h5⟩ := y.bas hk
    obtain ⟨t, he, htn, ht⟩ := h2.there
    refine hZ ?_; clear hZ
    have fresh : ∀ b, h0.get? b = none → base.get? b = none := fun b hb => by
      cases hq : base.get? b with
      | none => rfl
      | some o' => have := h3 b o' hq; rw [hb] at this; cases this
    rw [hl] at h4
    unfold noteFrame
    simp only [hL]
    refine wpAny_bind (wpAny_field he rfl (x := .none) rfl ?_)
    rw [if_neg (by decide)]
    refine wpAny_entryW (hl ▸ hA) (h4.of_keeps fun b o hb _ => ⟨o, h2.keeps b o hb, rfl⟩) hL he (fun b o hb => h2.keeps b o (h3 b o hb)) (fresh e h2.new) rfl (by show 1 < 6; decide) (a0 := .ref t) rfl fun h' hN => ?_
    refine byC fun hZ => ?_
    obtain ⟨n1, n2, n3, n4⟩ := hN
    obtain ⟨a1, a2, a3, a4⟩ := x.fly R S h5 n1 n4
    refine hZ ?_; clear hZ
    exact hq h' a1 a2 ⟨I, base, .ref t, env, l, L, h1, hl, hL, hl ▸ ⟨n1, fresh e h2.new, n2, n3⟩, a3⟩ a4
  · rw [hl] at h2
    cases h2
    rw [hL] at h3
    cases h3
    exact wpAny_noteFrame_againW hL h4.2.2.2 (hq s2.heap x R ⟨I, base, a0, env, l, L, h1, hl, hL, h4, h5⟩ S)

theorem wpAny_setFlight_someW {M : Model} {Q : Unit → Shared → Prop} {l : List Env} {cls a0 : Value} {L : Addr} (hh : Heap.HeldW base l e cls a0 L s.heap)
    (hq : ∀ h', Heap.HeldW base l e cls a0 L h' → s.heap.UpToSlots h' → Q () { s with heap := h' }) : wpAny M A (setFlight (.ref e) (some L)) Q E s := by
  refine byC fun hZ => ?_
  obtain ⟨hkb, hen, hl, oe, vs, T, oT, ts, he, hcls, hd, h1, hnT, hTe, hT, hdT, h3⟩ := hh
  refine hZ ?_; clear hZ
  have hsz3 : 3 < ts.size := (Array.getElem?_eq_some_iff.mp h3).1
  have other : ∀ b, b ≠ T → (s.heap.update T (Obj.mapFields (·.setIfInBounds 3 ((some L).elim Value.none fun f => rawInt f)))).get? b = s.heap.get? b := fun b hb => Heap.get?_update_other _ _ (Ne.symm hb)
  have noR : ∀ b o, s.heap.get? b = some o → (∀ vs, o.data ≠ .fields vs) → b ≠ T := fun b o hb hnf q => by
    rw [q, hT] at hb; injection hb with hb; subst hb; exact hnf ts hdT
  unfold setFlight
  refine wpAny_bind (wpAny_field he hd h1 ?_)
  rw [if_pos (show (Value.ref T != Value.none) = true from by simp)]
  refine wpAny_setField hT hdT hsz3 (hq _ ⟨fun b o hbo => (other b fun q => by rw [q, hnT] at hbo; cases hbo).trans (hkb b o hbo), hen, hl.of_keeps fun b o hb hnf => ⟨o, (other b (noR b o hb hnf)).trans hb, rfl⟩, ?_⟩ fun b o hb hn => ⟨o.slots, (other b (noR b o hb hn)).trans hb⟩)
  exact ⟨oe, vs, T, _, _, (other e (Ne.symm hTe)).trans he, hcls, hd, h1, hnT, hTe, Heap.get?_update_self _ hT (Obj.isFreed_of_fields (Obj.data_mapFields hdT _)), Obj.data_mapFields hdT _, by simp [hsz3]⟩

theorem came_back {M : Model} (hT : C.fs.head? = some env) (x : Ext own g s g' s2) (R : C.Rel σ' g' s2.heap) (S : StkC C g' s2.heap) (y : XH C (lvs s) g' k e s2.heap)
    (hq : ∀ h', Ext own g s g' { s2 with heap := h' } → C.Rel σ' g' h' → XH C (lvs s) g' k e h' → StkC C g' h' → E (.ref e) { s2 with heap := h' }) : cameBackBy M A env E (.ref e) s2 := by
  refine byC fun hZ => ?_
  obtain ⟨I, base, a0, env', l, L, h1, h2, h3, h4, h5⟩ := y
  refine hZ ?_; clear hZ
  rw [h2] at hT
  cases hT
  unfold cameBackBy
  refine byC fun hZ => ?_
  obtain ⟨oe, vs, T, oT, ts, he, hcls, hd, hv1, _⟩ := h4.2.2.2
  refine hZ ?_; clear hZ
  refine wpAny_bind (wpAny_field he hd hv1 ?_)
  rw [if_neg (show ¬ ((Value.ref T == Value.none) = true) from by simp)]
  show wpAny M A (setFlight (.ref e) env.frame) _ _ _
  rw [h3]
  refine wpAny_setFlight_someW h4 fun h' hh hu => ?_
  obtain ⟨a1, a2, a3, a4⟩ := x.fly R S h5 hh.1 hu
  exact hq h' a1 a2 ⟨I, base, a0, env, l, L, h1, h2, h3, hh, a3⟩ a4

theorem noteFrame_eq {x : Value} {e0 : Env} (h : env.frame = e0.frame) : noteFrame x env = noteFrame x e0 := by
  unfold noteFrame PySem.frameOf; rw [h]
theorem note_thrownH {M : Model} {Q : Unit → Shared → Prop} (hA : A.frames = some C.fs) (hk : ∀ e ∈ C.fs, e.scope.kind ≠ .module ∧ ∃ L, e.frame = some L) (hT : HeadF C env) (x : Ext own g s g' s2) (R : C.Rel σ' g' s2.heap) (S : StkC C g' s2.heap) (y : XS C (lvs s) g' k e s2.heap)
    (hq : ∀ h', Ext own g s g' { s2 with heap := h' } → C.Rel σ' g' h' → XH C (lvs s) g' k e h' → StkC C g' h' → Q () { s2 with heap := h' }) : wpAny M A (noteFrame (.ref e) env) Q E s2 := by
  obtain ⟨e0, h0, h1⟩ := hT
  rw [noteFrame_eq h1]
  exact note_thrown hA hk h0 x R S y hq
theorem pass_on {M : Model} {α : Type} {what : String} {Q : α → Shared → Prop} (hT : HeadF C env) (x : Ext own g s g' s2) (R : C.Rel σ' g' s2.heap) (S : StkC C g' s2.heap) (y : XH C (lvs s) g' k e s2.heap)
    (hq : ∀ h', Ext own g s g' { s2 with heap := h' } → C.Rel σ' g' h' → XH C (lvs s) g' k e h' → StkC C g' h' → E (.ref e) { s2 with heap := h' }) : wpAny M A (passOn what (.ref e) env : Sem α) Q E s2 := by
  obtain ⟨e0, h0, h1⟩ := hT
  refine byC fun hZ => ?_
  obtain ⟨I, base, a0, env', l, L, q1, q2, q3, q4, q5⟩ := y
  obtain ⟨oe, vs, T, oT, ts, he, hcls, hd, hv1, _⟩ := q4.2.2.2
  refine hZ ?_; clear hZ
  unfold PySem.passOn
  refine wpAny_bind (wpAny_field he hd hv1 ?_)
  rw [if_neg (show ¬ ((Value.ref T == Value.none) = true) from by simp)]
  refine wpAny_bind ?_
  rw [q2] at h0
  cases h0
  rw [h1, q3]
  refine wpAny_setFlight_someW q4 fun h' hh hu => wpAny_throw ?_
  obtain ⟨a1, a2, a3, a4⟩ := x.fly R S q5 hh.1 hu
  exact hq h' a1 a2 ⟨I, base, a0, _, l, L, q1, q2, q3, hh, a3⟩ a4
theorem XH.mono {lv lv' : Addr → Prop} {k : Str} {e : Addr} (x : XH C lv g k e h) (hl : ∀ b, lv' b → lv b) : XH C lv' g k e h :=
  let ⟨I, base, a0, env, l, L, h1, h2, h3, h4, h5⟩ := x; ⟨I, base, a0, env, l, L, h1, h2, h3, h4, h5.mono hl (fun _ q => .inl q) fun _ q => .inr q⟩
theorem cutOne_none {h : Heap} {L b : Addr} (q : h.get? b = none) : (cutOne h L).get? b = none := by
  by_cases hb : b = L
  · subst hb; exact cutOne_self _ _
  · rw [cutOne_other _ hb]; exact q
theorem frames_cut {L : Addr} (hs : Heap.SameBut L h h') : ∀ l : List Env, L ∉ l.filterMap (·.frame) → h.FunFrames base l → h'.FunFrames (cutOne base L) l
  | [], _, _ => trivial
  | e :: l, hl, ⟨h1, ⟨L1, o, h2, h3, h4, h5⟩, h6⟩ => by
    have hl' : L ∉ L1 :: l.filterMap (·.frame) := by rw [List.filterMap_cons, h2] at hl; exact hl
    exact ⟨h1, ⟨L1, o, h2, cutOne_none h3, (hs.2 L1 fun q => hl' (q ▸ List.mem_cons_self)).trans h4, h5⟩, frames_cut hs l (fun q => hl' (List.mem_cons_of_mem _ q)) h6⟩
theorem XH.letGo {L : Addr} {m : Str → Option Value} (y : XH C lv g k e h) (hn : h.Ns L m) (hs : Heap.SameBut L h h') (hμ : L ∉ g.μ) (hΦ : ¬ g.Φ L) (hl : ¬ lv L) (hf : L ∉ frs C) : XH C lv g k e h' := by
  refine byC fun hZ => ?_
  obtain ⟨I, base, a0, env, l, L0, h1, h2, h3, ⟨k1, k2, k3, oe, vs, T, oT, ts, he, hcls, hd, hv1, hnT, hTe, hT, hdT, hts⟩, h5⟩ := y
  obtain ⟨oL, g1, g2⟩ := ns_dD hn
  refine hZ ?_; clear hZ
  have nf : ∀ b o ws, h.get? b = some o → o.data = .fields ws → b ≠ L := fun b o ws e1 e2 q => by
    subst q
    rw [g1] at e1; cases e1
    exact dD_nf g2 ws e2
  have ne := nf e oe _ he hd
  have nT := nf T oT _ hT hdT
  refine ⟨I, cutOne base L, a0, env, l, L0, h1, h2, h3, ⟨fun b o q => ?_, cutOne_none k2, frames_cut hs _ hf k3, oe, vs, T, oT, ts, (hs.2 e ne).trans he, hcls, hd, hv1, cutOne_none hnT, hTe, (hs.2 T nT).trans hT, hdT, hts⟩, fun b o q z => ?_⟩
  · obtain ⟨q1, q2⟩ := cutOne_some q
    rw [hs.2 b q1]; exact k1 b o q2
  · have q1 : b ≠ L := fun w => by subst w; rcases z with z | z | z; exact hμ z; exact hΦ z; exact hl z.1
    rw [hs.2 b q1] at q
    rw [cutOne_other _ q1]
    exact h5 b o q z

noncomputable def Fix.push (C : Fix) (env : Env) : Fix := { C with fs := env :: C.fs }
theorem frs_push {L : Addr} (hL : env.frame = some L) : frs (C.push env) = L :: frs C := by
  show List.filterMap _ (env :: C.fs) = _
  rw [List.filterMap_cons, hL]; rfl

theorem leave_thrown {M : Model} {Q : Unit → Shared → Prop} {L : Addr} (hA : A.frames = some (C.push env).fs) (hk : ∀ e ∈ (C.push env).fs, e.scope.kind ≠ .module ∧ ∃ L, e.frame = some L) (hL : env.frame = some L) (hLn : s.heap.get? L = none)
    (x : Ext noOwn g s g' s2) (R : C.Rel σ' g' s2.heap) (S : StkC C g s.heap) (y : XS (C.push env) lv g' k e s2.heap) (hlv : ∀ b, lvs s b → lv b)
    (hq : ∀ h', Ext noOwn g s g' { s2 with heap := h' } → C.Rel σ' g' h' → XF C (lvs s) g' k e h' → Q () { s2 with heap := h' }) : wpAny M A (leaving env (.ref e)) Q E s2 := by
  have S2 : StkC C g' s2.heap := S.ext x fun _ _ q => q
  have inb : ∀ {base h}, InBase (C.push env) lv g' base h → InBase C (lvs s) g' base h := fun {base h} q b o e z => q b o e (by
    rcases z with z | z | z
    · exact .inl z
    · exact .inr (.inl z)
    · refine .inr (.inr ⟨hlv b z.1, ?_⟩)
      rw [frs_push hL]
      intro m
      rcases List.mem_cons.mp m with m | m
      · rw [m] at z
        have := z.1
        unfold lvs at this
        rw [hLn] at this; cases this
      · exact z.2 m)
  rcases y with ⟨I, base, a0, h1, h2, h3⟩ | y | ⟨I, base, a0, env', l', L', h1, h2, h3, h4, h5⟩
  · refine wpAny_leaves_onW (hA) hL h2 fun h' hh hu => ?_
    obtain ⟨a1, a2, a3, a4⟩ := x.fly R S2 (inb h3) hh.1 hu
    exact hq h' a1 a2 ⟨I, base, a0, h1, hh, a3⟩
  · refine byC fun hZ => ?_
    obtain ⟨I, base, h0, vs, h1, h2, h3, h4, h5⟩ := y.bas hk
    refine hZ ?_; clear hZ
    refine wpAny_leaves_madeW hA hL h3 h4 h2 fun h' t hh _ _ hu => ?_
    obtain ⟨a1, a2, a3, a4⟩ := x.fly R S2 (inb h5) hh.1 hu
    exact hq h' a1 a2 ⟨I, base, .ref t, h1, hh, a3⟩
  · have h2 : env :: C.fs = env' :: l' := h2
    cases h2
    rw [hL] at h3
    cases h3
    unfold leaving
    refine wpAny_bind (wpAny_noteFrame_againW hL h4.2.2.2 ?_)
    refine wpAny_landsW h4 fun h' hf hu => ?_
    refine byC fun hZ => ?_
    obtain ⟨a1, a2, a3, a4⟩ := x.fly R S2 (inb h5) hf.1 hu
    obtain ⟨k1, k2, ⟨_, _, k3⟩, k4⟩ := hf
    refine hZ ?_; clear hZ
    exact hq h' a1 a2 ⟨I, base, a0, h1, ⟨k1, k2, k3, k4⟩, a3⟩
end Mine

set_option autoImplicit false
set_option backward.match.sparseCases true
set_option linter.unusedVariables false
namespace Mine
open PySem PyProof.Rows PySem.SeqAt

variable {C : Fix} {c : Cx} {σ σ' : AH} {g g' : Cfg} {h h' : Heap} {s s' : Shared} {own : Addr → Prop} {A : Around} {d : Nat} {nm : NM} {vm : VM} {env : Env} {ρ : List PV}
  {E : Value → Shared → Prop}

theorem set_get {ρ : List PV} {i j : Nat} {v w : PV} (h : (ρ.set i v)[j]? = some w) : (j = i ∧ w = v) ∨ (j ≠ i ∧ ρ[j]? = some w) := by
  by_cases hj : j = i
  · subst hj
    have hlt : j < (ρ.set j v).length := (List.getElem?_eq_some_iff.mp h).1
    rw [List.length_set] at hlt
    rw [List.getElem?_set_self hlt] at h
    cases h; exact .inl ⟨rfl, rfl⟩
  · rw [List.getElem?_set_ne (Ne.symm hj)] at h; exact .inr ⟨hj, h⟩

theorem ns_cell_ne {h : Heap} {a b : Addr} {m : Str → Option Value} {o : Option Value} (x : h.Ns a m) (y : h.IsCell b o) : b ≠ a := by
  rintro rfl
  refine byC fun hZ => ?_
  obtain ⟨ob, es, ep, h1, h2, _⟩ := x
  obtain ⟨oc, h3, h4⟩ := y
  refine hZ ?_; clear hZ
  rw [h1] at h3; cases h3; rw [h2] at h4; cases h4

theorem store_sound {M : Model} {Q : Unit → Shared → Prop} (F : FR C nm vm env ρ g s.heap) (R : C.Rel σ g s.heap) {x : Str} {i : Nat} {v : PV} {y : Value} (hx : vm.lookup x = some i) (ho : isOwn (nm.lookup x) = true) (hv : C.VR g s.heap v y)
    (hoL : own env.locals) (hoC : nm.lookup x = some .cell → ∀ c, env.cells.lookup x = some c → own c)
    (hq : ∀ s', FR C nm vm env (ρ.set i v) g s'.heap → C.Rel σ g s'.heap → Ext own g s g s' → Q () s') : wpAny M A (storeName env x y) Q E s := by
  have hkind : env.kindOf x = nm.lookup x := by rw [← F.names]; rfl
  cases hk : nm.lookup x with
  | none => rw [hk] at ho; cases ho
  | some k =>
    rw [hk] at ho hkind
    cases k <;> first | cases ho | skip
    · -- local
      refine byC fun hZ => ?_
      obtain ⟨m, n1, n2⟩ := F.ns
      refine hZ ?_; clear hZ
      refine wpAny_storeName_local hkind n1 (fun h' hn' hs' => ?_) (by rw [F.kind]; rfl)
      have hk' : ∀ b o, b ≠ env.locals → s.heap.get? b = some o → h'.get? b = some o := fun b o hb e => by rw [hs'.2 b hb]; exact e
      have kept : Kept g s.heap h' := .of_but hk' F.offL
      refine hq _ ⟨F.kind, F.names, F.glob, F.blt, F.inj, ⟨_, hn', fun z j w a1 a2 a3 a4 => ?_⟩, fun z j a1 a2 => ?_, F.offL, F.offC, fun z cc b1 => ?_, F.apart, F.stk.but hk' fun _ _ q => q⟩ (R.kept kept) (Ext.heap (fun b o e _ hb => hk' b o (fun q => hb (q ▸ hoL)) e) fun b hb => ?_)
      · rcases set_get a3 with ⟨rfl, rfl⟩ | ⟨hj, a5⟩
        · have := F.inj z x _ a1 hx; subst this
          exact ⟨y, by simp, VR_kept (C := C) kept hv⟩
        · have hzx : z ≠ x := fun q => hj (by subst q; rw [hx] at a1; exact (Option.some.inj a1).symm)
          obtain ⟨u, u1, u2⟩ := n2 z j w a1 a2 a5 a4
          exact ⟨u, by simp [hzx, u1], VR_kept (C := C) kept u2⟩
      · refine byC fun hZ => ?_
        obtain ⟨cc, o, b1, b2, b3⟩ := F.cl z j a1 a2
        refine hZ ?_; clear hZ
        refine ⟨cc, o, b1, b2.sameBut hs' (ns_cell_ne n1 b2), fun w a3 a4 => ?_⟩
        rcases set_get a3 with ⟨rfl, rfl⟩ | ⟨hj, a5⟩
        · have := F.inj z x _ a1 hx; subst this
          rw [hk] at a2; cases a2
        · obtain ⟨u, u1, u2⟩ := b3 w a5 a4
          exact ⟨u, u1, VR_kept (C := C) kept u2⟩
      · obtain ⟨o, b2⟩ := F.cliv z cc b1
        exact ⟨o, b2.sameBut hs' (ns_cell_ne n1 b2)⟩
      · by_cases hba : b = env.locals
        · subst hba; obtain ⟨o, ho⟩ := Heap.Ns.live hn'; exact isSome_of ho
        · obtain ⟨o, ho⟩ := Option.isSome_iff_exists.mp hb; exact isSome_of (hk' b o hba ho)
    · -- cell
      obtain ⟨cc, o, b1, b2, b3⟩ := F.cl x i hx (by rw [hk]; rfl)
      refine byC fun hZ => ?_
      obtain ⟨m, n1, n2⟩ := F.ns
      refine hZ ?_; clear hZ
      refine wpAny_storeName_cell F.kind hkind b1 b2 fun h' hc' hs' => ?_
      have hk' : ∀ b o, b ≠ cc → s.heap.get? b = some o → h'.get? b = some o := fun b o hb e => by rw [hs'.2 b hb]; exact e
      have kept : Kept g s.heap h' := .of_but hk' (F.offC x cc b1)
      have hne := ns_cell_ne n1 b2
      refine hq _ ⟨F.kind, F.names, F.glob, F.blt, F.inj, ⟨m, n1.sameBut hs' (Ne.symm hne), fun z j w a1 a2 a3 a4 => ?_⟩, fun z j a1 a2 => ?_, F.offL, F.offC, fun z c' d1 => ?_, F.apart, F.stk.but hk' fun L hL hn q => (F.stk.2 L hL hn).1 x (q ▸ b1)⟩ (R.kept kept) (Ext.heap (tk := s.toks) (fun b o e _ hb => hk' b o (fun q => hb (q ▸ hoC hk cc b1)) e) fun b hb => ?_)
      · rcases set_get a3 with ⟨rfl, rfl⟩ | ⟨hj, a5⟩
        · have := F.inj z x _ a1 hx; subst this
          rw [hk] at a2; cases a2
        · obtain ⟨u, u1, u2⟩ := n2 z j w a1 a2 a5 a4
          exact ⟨u, u1, VR_kept (C := C) kept u2⟩
      · refine byC fun hZ => ?_
        obtain ⟨c', o', d1, d2, d3⟩ := F.cl z j a1 a2
        refine hZ ?_; clear hZ
        by_cases hzx : z = x
        · subst hzx
          rw [b1] at d1; cases d1
          refine ⟨cc, some y, b1, hc', fun w a3 a4 => ?_⟩
          rcases set_get a3 with ⟨_, rfl⟩ | ⟨hj, a5⟩
          · exact ⟨y, rfl, VR_kept (C := C) kept hv⟩
          · rw [hx] at a1; exact absurd (Option.some.inj a1).symm hj
        · have hcc : c' ≠ cc := fun q => hzx (F.apart z x cc (q ▸ d1) b1)
          refine ⟨c', o', d1, d2.sameBut hs' hcc, fun w a3 a4 => ?_⟩
          rcases set_get a3 with ⟨rfl, _⟩ | ⟨hj, a5⟩
          · exact absurd (F.inj z x _ a1 hx) hzx
          · obtain ⟨u, u1, u2⟩ := d3 w a5 a4
            exact ⟨u, u1, VR_kept (C := C) kept u2⟩
      · by_cases hcc : c' = cc
        · subst hcc; exact ⟨_, hc'⟩
        · obtain ⟨o', d2⟩ := F.cliv z c' d1
          exact ⟨o', d2.sameBut hs' hcc⟩
      · by_cases hba : b = cc
        · subst hba; obtain ⟨o, ho, _⟩ := hc'; exact isSome_of ho
        · obtain ⟨o, ho⟩ := Option.isSome_iff_exists.mp hb; exact isSome_of (hk' b o hba ho)

theorem assign_name {M : Model} {Q : Unit → Shared → Prop} {x : Str} {p : Pos} {y : Value} (h : wpAny M A (storeName env x y) Q E s) : wpAny M A (assign (.Name x p) env y) Q E s := by
  show wpAny M A (standAt p >>= fun _ => bindName env x y) Q E s
  exact wpAny_bind (wpAny_standAt (wpAny_bindName h))

theorem chkNames_cons {i : Nat} {is : List Nat} {es : List Expr} (h : chkNames nm vm (i :: is) es = true) : ∃ x p es', es = .Name x p :: es' ∧ vm.lookup x = some i ∧ isOwn (nm.lookup x) = true ∧ chkNames nm vm is es' = true := by
  cases es with
  | nil => cases h
  | cons e es =>
    refine byC fun hZ => ?_
    obtain ⟨x, p, rfl⟩ := fmName h
    obtain ⟨h12, h3⟩ := and2 (show (vm.lookup x == some i && isOwn (nm.lookup x) && chkNames nm vm is es) = true from h)
    obtain ⟨h1, h2⟩ := and2 h12
    refine hZ ?_; clear hZ
    exact ⟨x, p, es, rfl, by simpa using h1, h2, h3⟩
theorem chkNames_nil {es : List Expr} (h : chkNames nm vm [] es = true) : es = [] := by
  cases es with
  | nil => rfl
  | cons e es => cases h

theorem assignIn {Q : Unit → Shared → Prop} (hoff : Off own g) (hoL : own env.locals) : ∀ (is : List Nat) (es : List Expr) (l : List PV) (xs : List Value) (ρ : List PV) (s : Shared), chkNames nm vm is es = true → l.length = is.length → FR C nm vm env ρ g s.heap → C.Rel σ g s.heap → C.VRs g s.heap l xs →
    (∀ x ∈ namesOf es, nm.lookup x = some .cell → ∀ c, env.cells.lookup x = some c → own c) →
    (∀ s', FR C nm vm env (setAll ρ is l) g s'.heap → C.Rel σ g s'.heap → Ext own g s g s' → Q () s') → wpAny (model C.prog C.w) A (assignInOrder ((assignEach es env).map (·.2)) xs) Q E s := by
  intro is
  induction is with
  | nil =>
    intro es l xs ρ s hc hl F R hv hoC hq
    rw [chkNames_nil hc]
    have : l = [] := List.length_eq_zero_iff.mp hl
    subst this; cases hv
    exact wpAny_pure (hq s F R (Ext.refl g s))
  | cons i is ih =>
    intro es l xs ρ s hc hl F R hv hoC hq
    refine byC fun hZ => ?_
    obtain ⟨x, p, es', rfl, h1, h2, h3⟩ := chkNames_cons hc
    refine hZ ?_; clear hZ
    cases hv with
    | nil => cases hl
    | @cons v y l xs hv hvs =>
      show wpAny _ _ (holding xs (assign (.Name x p) env y) >>= fun _ => assignInOrder ((assignEach es' env).map (·.2)) xs) _ _ _
      refine wpAny_bind (wpAny_holding (assign_name (store_sound F R h1 h2 hv hoL (hoC x (List.mem_cons_self ..)) fun s1 F1 R1 e1 => ?_)))
      refine ih es' l xs (ρ.set i v) s1 h3 (by simpa using hl) F1 R1 (VRs_ext R e1 hoff hvs) (fun z hz => hoC z (List.mem_cons_of_mem _ hz)) fun s2 F2 R2 e2 => hq s2 F2 R2 (e1.trans e2)

theorem assignEach_names : ∀ (is : List Nat) (es : List Expr), chkNames nm vm is es = true → (assignEach es env).length = is.length ∧ (assignEach es env).findIdx? (·.1) = none
  | [], es, h => by rw [chkNames_nil h]; exact ⟨rfl, rfl⟩
  | i :: is, es, h => by
    refine byC fun hZ => ?_
    obtain ⟨x, p, es', rfl, _, _, h3⟩ := chkNames_cons h
    obtain ⟨q1, q2⟩ := assignEach_names is es' h3
    refine hZ ?_; clear hZ
    have e : assignEach (.Name x p :: es') env = (false, assign (.Name x p) env) :: assignEach es' env := rfl
    rw [e]
    exact ⟨by simp [q1], by rw [List.findIdx?_cons]; simp [q2]⟩

theorem assign_sound {Q : Unit → Shared → Prop} (hh : A.handled = none) (hoff : Off own g) (hoL : own env.locals) {t : Tgt} {tg : Expr} {v : PV} {y : Value} {ρ1 : List PV} (hc : chkT nm vm t tg = true) (F : FR C nm vm env ρ g s.heap) (R : C.Rel σ g s.heap) (hv : C.VR g s.heap v y)
    (hoC : ∀ x ∈ tgtNames tg, nm.lookup x = some .cell → ∀ c, env.cells.lookup x = some c → own c) (hb : bindT t v ρ = some ρ1)
    (hq : ∀ s', FR C nm vm env ρ1 g s'.heap → C.Rel σ g s'.heap → Ext own g s g s' → Q () s') : wpAny (model C.prog C.w) A (assign tg env y) Q E s := by
  cases t with
  | one i =>
    refine byC fun hZ => ?_
    obtain ⟨x, p, rfl⟩ := fmName hc
    obtain ⟨h1, h2⟩ := and2 (show (vm.lookup x == some i && isOwn (nm.lookup x)) = true from hc)
    refine hZ ?_; clear hZ
    cases hb
    exact assign_name (store_sound F R (by simpa using h1) h2 hv hoL (hoC x (List.mem_singleton.mpr rfl)) hq)
  | many is =>
    refine byC fun hZ => ?_
    obtain ⟨es, ctx, p, rfl⟩ := fmTup hc
    refine hZ ?_; clear hZ
    have hc' : chkNames nm vm is es = true := hc
    cases hv with
    | @tup l a vs h0 hl hr =>
      have hb' : (if l.length = is.length then some (setAll ρ is l) else none) = some ρ1 := hb
      split at hb'
      · rename_i hlen
        cases hb'
        obtain ⟨q1, q2⟩ := assignEach_names (env := env) is es hc'
        have hsz := hr.size
        refine wpAny_assign_Tuple hh (isTuple_of hl) (by exact om303 hlen q1 hsz) q2 fun h' hk => ?_
        have hk' : ∀ b o, s.heap.get? b = some o → h'.get? b = some o := fun b o e => hk b o (Nat.ne_of_lt (Heap.lt_size e)) e
        have e1 : Ext noOwn g s g { s with heap := h' } := Ext.all (tk := s.toks) hk'
        exact assignIn hoff hoL is es l vs.toList ρ { s with heap := h' } hc' hlen (F.ext R e1) (R.kept (.of_all hk')) (VRs_kept (C := C) (.of_all hk') hr) hoC fun s2 F2 R2 e2 => hq s2 F2 R2 (e1.weaken.trans e2)
      · cases hb'
    | _ => cases hb

theorem owned_go {Q : Unit → Shared → Prop} {tg : Expr} {I : Addr} {y : Value} (hp : PlainIter s.heap I ∨ (∀ es ctx p, tg ≠ .Tuple es ctx p)) (hl : ∀ es p, tg ≠ .List es p) (h : Q () s) : wpAny (model C.prog C.w) A (letOwnedTupleGo tg (.ref I) y) Q E s := by
  cases tg <;> first | exact wpAny_pure h | skip
  · exact absurd rfl (hl _ _)
  · rcases hp with ⟨ob, n, h1, h2, h3⟩ | hp
    · unfold letOwnedTupleGo
      cases y <;> first | exact wpAny_pure h | skip
      refine wpAny_bind (wpAny_load h1 ?_)
      rw [h2]
      cases ob.data <;> first | exact wpAny_pure h | skip
      simp only [h3, Bool.false_and, Bool.false_eq_true, if_false]
      exact wpAny_pure h
    · exact absurd rfl (hp _ _ _)
end Mine

set_option autoImplicit false
set_option backward.match.sparseCases true
set_option linter.unusedVariables false
namespace Mine
open PySem PyProof.Rows PySem.SeqAt

variable {C : Fix} {c : Cx} {σ σ' : AH} {g g' : Cfg} {h h' : Heap} {s s' : Shared} {own : Addr → Prop} {A : Around} {d : Nat} {nm : NM} {vm : VM} {env : Env} {ρ : List PV}
  {E : Value → Shared → Prop}

noncomputable def Cfg.withLk (g : Cfg) (L : Addr → Prop) : Cfg := ⟨g.μ, g.Φ, L⟩
theorem VR_lk {L : Addr → Prop} {v : PV} {x : Value} (hv : C.VR g h v x) : C.VR (g.withLk L) h v x := VR.mono (g := g) (g' := g.withLk L) (List.prefix_refl g.μ) (fun _ q => q) (fun _ _ _ e => e) hv
theorem VRs_lk {L : Addr → Prop} {v : List PV} {x : List Value} (hv : C.VRs g h v x) : C.VRs (g.withLk L) h v x := VRs.mono (g := g) (g' := g.withLk L) (List.prefix_refl g.μ) (fun _ q => q) (fun _ _ _ e => e) hv
theorem VRd_lk {L : Addr → Prop} {v : List (Str × PV)} {x : List (Str × Value)} (hv : C.VRd g h v x) : C.VRd (g.withLk L) h v x := VRd.mono (g := g) (g' := g.withLk L) (List.prefix_refl g.μ) (fun _ q => q) (fun _ _ _ e => e) hv

theorem relock (R : C.Rel σ g h) {L : Addr → Prop} {σ' : AH} (hl : σ'.length = σ.length) (hlk : ∀ a, L a → a ∈ g.μ) (ho : ∀ (i : Nat) o a, σ'[i]? = some o → g.μ[i]? = some a → C.OR (g.withLk L) h o a) : C.Rel σ' (g.withLk L) h where
  rel := { len := R.rel.len.trans hl.symm, nodup := R.rel.nodup, disj := R.rel.disj, lkμ := hlk, live := R.rel.live, base := R.rel.base, baseμ := R.rel.baseμ, objs := ho }
  bas := R.bas
  sys := R.sys

noncomputable def lockSet (g : Cfg) (v : PV) : Addr → Prop := fun b => g.lk b ∨ ∃ i, v = .ref i ∧ g.μ[i]? = some b

theorem lockAt_len {i : Nat} {b : Bool} : (lockAt σ i b).length = σ.length := by
  unfold lockAt; split <;> simp
theorem lockV_len {v : PV} {b : Bool} : (lockV σ v b).length = σ.length := by
  unfold lockV; split
  · exact lockAt_len
  · rfl
theorem lockAt_ne {i j : Nat} {b : Bool} (h : j ≠ i) : (lockAt σ i b)[j]? = σ[j]? := by
  unfold lockAt; split
  · rw [List.getElem?_set_ne (Ne.symm h)]
  · rw [List.getElem?_set_ne (Ne.symm h)]
  · rfl
noncomputable def AObj.flag (b : Bool) : AObj → AObj
  | .list _ l => .list b l
  | .dict _ l => .dict b l
theorem flag_l (b c : Bool) (l : List PV) : AObj.flag b (.list c l) = .list b l := rfl
theorem flag_d (b c : Bool) (l : List (Str × PV)) : AObj.flag b (.dict c l) = .dict b l := rfl
theorem lockAt_self {i : Nat} {b : Bool} : (lockAt σ i b)[i]? = (σ[i]?).map (AObj.flag b) := by
  unfold lockAt
  cases ho : σ[i]? with
  | none => simp [ho]
  | some o =>
    have hlt := (List.getElem?_eq_some_iff.mp ho).1
    cases o <;> simp [List.getElem?_set_self hlt, ho, flag_l, flag_d]

theorem OR_flag {L : Addr → Prop} {o o' : AObj} {a : Addr} (hor : C.OR g h o a) (hu : derefO (some o) ≠ .undef) (b : Bool) (ho : o' = AObj.flag b o) (hb : b = true ↔ L a) : C.OR (g.withLk L) h o' a := by
  subst ho
  cases o with
  | list b l => obtain ⟨_, vs, h1, h2⟩ := hor; exact ⟨hb, vs, h1, VRs_lk h2⟩
  | dict b l => obtain ⟨_, kvs, h1, h2⟩ := hor; exact ⟨hb, kvs, h1, VRd_lk h2⟩
theorem OR_same {L : Addr → Prop} {o : AObj} {a : Addr} (hor : C.OR g h o a) (hL : L a ↔ g.lk a) : C.OR (g.withLk L) h o a := by
  cases o with
  | list b l => obtain ⟨h0, vs, h1, h2⟩ := hor; exact ⟨h0.trans hL.symm, vs, h1, VRs_lk h2⟩
  | dict b l => obtain ⟨h0, kvs, h1, h2⟩ := hor; exact ⟨h0.trans hL.symm, kvs, h1, VRd_lk h2⟩

theorem mu_inj (R : C.Rel σ g h) {i j : Nat} {a : Addr} (h1 : g.μ[i]? = some a) (h2 : g.μ[j]? = some a) : i = j := by
  have l1 := (List.getElem?_eq_some_iff.mp h1).1
  exact (List.getElem?_inj l1 R.rel.nodup).mp (h1.trans h2.symm)

theorem items_ref {v : PV} {l : List PV} (hi : items σ v = some l) : ∀ i, v = .ref i → derefO σ[i]? ≠ .undef := by
  rintro i rfl e
  have hi : itemsD (derefO σ[i]?) = some l := hi
  rw [e] at hi
  cases hi
theorem lock_rel (R : C.Rel σ g h) {v : PV} (hk : ∀ i, v = .ref i → derefO σ[i]? ≠ .undef) : C.Rel (lockV σ v true) (g.withLk (lockSet g v)) h := by
  refine relock R lockV_len (fun a ha => ?_) fun j o b h1 h2 => ?_
  · rcases ha with ha | ⟨i, _, ha⟩
    · exact R.rel.lkμ a ha
    · exact List.mem_of_getElem? ha
  · have other : (∀ i, v = .ref i → j ≠ i) → C.OR (g.withLk (lockSet g v)) h o b := fun hne => by
      have h1' : σ[j]? = some o := by
        unfold lockV at h1
        split at h1
        · rw [lockAt_ne (hne _ rfl)] at h1; exact h1
        · exact h1
      refine OR_same (R.rel.objs j o b h1' h2) ⟨fun q => q.elim id fun ⟨i, q1, q2⟩ => ?_, fun q => .inl q⟩
      exact absurd (mu_inj R h2 q2) (hne i q1)
    by_cases hv : v = .ref j
    · subst hv
      have h1' : (lockAt σ j true)[j]? = some o := h1
      rw [lockAt_self] at h1'
      obtain ⟨o0, q1, q2⟩ := Option.map_eq_some_iff.mp h1'
      exact OR_flag (R.rel.objs j o0 b q1 h2) (q1 ▸ hk j rfl) true q2.symm ⟨fun _ => .inr ⟨j, rfl, h2⟩, fun _ => rfl⟩
    · exact other fun i hi hji => hv (by rw [hi, hji])

theorem unlock_rel (R0 : C.Rel σ g h) (R : C.Rel σ' g' h') {v : PV} (hp : g.μ <+: g'.μ) (hlk : g'.lk = lockSet g v) (hv : ∀ i, v = .ref i → ∃ a, g.μ[i]? = some a) (hk : ∀ i, v = .ref i → derefO σ[i]? ≠ .undef) : C.Rel (lockV σ' v (lkV σ v)) (g'.withLk g.lk) h' := by
  have up : ∀ {i : Nat} {a : Addr}, g.μ[i]? = some a → g'.μ[i]? = some a := fun {i a} e => by
    obtain ⟨t, ht⟩ := hp
    rw [← ht, List.getElem?_append_left (List.getElem?_eq_some_iff.mp e).1]; exact e
  refine relock R lockV_len (fun a ha => ?_) fun j o b h1 h2 => ?_
  · obtain ⟨i, hi⟩ := List.getElem?_of_mem (R0.rel.lkμ a ha)
    exact List.mem_of_getElem? (up hi)
  · by_cases hvj : v = .ref j
    · subst hvj
      have h1' : (lockAt σ' j (lkV σ (.ref j)))[j]? = some o := h1
      rw [lockAt_self] at h1'
      obtain ⟨o0, q1, q2⟩ := Option.map_eq_some_iff.mp h1'
      obtain ⟨a, ha⟩ := hv j rfl
      have hab : a = b := by have := up ha; rw [h2] at this; exact (Option.some.inj this).symm
      subst hab
      have hla : g'.lk a := by rw [hlk]; exact .inr ⟨j, rfl, ha⟩
      have hu : derefO (some o0) ≠ .undef := by
        have hor := R.rel.objs j o0 a q1 h2
        cases o0 with
        | list b l => exact fun q => nomatch q
        | dict b l => exact fun q => nomatch q
      refine OR_flag (R.rel.objs j o0 a q1 h2) hu _ q2.symm ?_
      have hlt : j < σ.length := R0.rel.len ▸ (List.getElem?_eq_some_iff.mp ha).1
      have hor := R0.rel.objs j σ[j] a (by simp [hlt]) ha
      show lkAt σ j = true ↔ g.lk a
      unfold lkAt
      have e : σ[j]? = some σ[j] := by simp [hlt]
      rw [e]
      cases hx : σ[j] with
      | list b l => rw [hx] at hor; exact hor.1
      | dict b l => rw [hx] at hor; exact hor.1
    · have h1' : σ'[j]? = some o := by
        unfold lockV at h1
        split at h1
        · rename_i i; rw [lockAt_ne (fun q => hvj (by rw [q]))] at h1; exact h1
        · exact h1
      refine OR_same (R.rel.objs j o b h1' h2) ⟨fun q => by rw [hlk]; exact .inl q, fun q => ?_⟩
      rw [hlk] at q
      rcases q with q | ⟨i, rfl, q⟩
      · exact q
      · exact absurd (mu_inj R h2 (up q)) fun e => hvj (by rw [e])

theorem Ext.relock {L : Addr → Prop} (e : Ext own (g.withLk L) s g' s') (h : ∀ b, g.lk b → L b) : Ext own g s (g'.withLk g.lk) s' :=
  ⟨e.pre, e.sub, e.newμ, e.newΦ, rfl, e.keep, fun b o q1 q2 q3 => e.keepF b o q1 (q2.imp id (h b)) q3, e.live, e.gens, e.os⟩
end Mine

set_option autoImplicit false
set_option backward.match.sparseCases true
set_option linter.unusedVariables false
namespace Mine
open PySem PyProof.Rows PySem.SeqAt

variable {C : Fix} {c : Cx} {σ σ' : AH} {g g' : Cfg} {h h' : Heap} {s s' : Shared} {own : Addr → Prop} {A : Around} {d : Nat} {nm : NM} {vm : VM} {env : Env} {ρ : List PV}
  {E : Value → Shared → Prop}

noncomputable def closOf (env : Env) : NM → List (Str × Addr) → List (Str × Addr)
  | [], acc => acc
  | (n, k) :: r, acc => closOf env r (if k == .free then (n, (env.cells.lookup n).getD 0) :: acc else acc)

theorem closOf_0 (env : Env) (acc : List (Str × Addr)) : closOf env [] acc = acc := rfl
theorem closOf_c (env : Env) (n : Str) (k : NameKind) (r : NM) (acc : List (Str × Addr)) : closOf env ((n, k) :: r) acc = closOf env r (if k == .free then (n, (env.cells.lookup n).getD 0) :: acc else acc) := rfl
theorem closure_eq {scope : Scope} (h : ∀ n, (n, NameKind.free) ∈ scope.names → ∃ c, env.cells.lookup n = some c) : closureFor scope env = pure (closOf env scope.names []) := by
  unfold closureFor
  have key : ∀ (l : NM) (acc : List (Str × Addr)) (f : Str × NameKind → List (Str × Addr) → Sem (ForInStep (List (Str × Addr)))), (∀ n k cs, f (n, k) cs = if (k == .free) = true then (do let c ← cellOf env n; pure (.yield ((n, c) :: cs))) else pure (.yield cs)) →
      (∀ n, (n, NameKind.free) ∈ l → ∃ c, env.cells.lookup n = some c) → forIn l acc f = pure (closOf env l acc) := by
    intro l
    induction l with
    | nil => intro acc f hf hl; simp [closOf_0]
    | cons p r ih =>
      intro acc f hf hl
      obtain ⟨n, k⟩ := p
      rw [List.forIn_cons, hf]
      by_cases hk : (k == NameKind.free) = true
      · have hk' : k = .free := by simpa using hk
        subst hk'
        obtain ⟨cc, hc⟩ := hl n (List.mem_cons_self ..)
        rw [if_pos hk]
        have : cellOf env n = pure cc := by unfold cellOf; rw [hc]
        rw [this]
        simp only [pure_bind]
        rw [ih _ f hf fun m hm => hl m (List.mem_cons_of_mem _ hm)]
        simp [closOf_c, hc]
      · rw [if_neg hk]
        simp only [pure_bind]
        rw [ih _ f hf fun m hm => hl m (List.mem_cons_of_mem _ hm)]
        simp [closOf_c, hk]
  dsimp only
  rw [key scope.names [] _ (fun n k cs => by cases hk : (k == NameKind.free) <;> simp [hk]) h]
  simp
theorem closOf_sub : ∀ (l : NM) (acc : List (Str × Addr)), (∀ n, (n, NameKind.free) ∈ l → ∃ c, env.cells.lookup n = some c) → (∀ n c, acc.lookup n = some c → env.cells.lookup n = some c) → ∀ n c, (closOf env l acc).lookup n = some c → env.cells.lookup n = some c
  | [], acc, _, ha, n, c, h => ha n c h
  | (m, k) :: r, acc, hl, ha, n, c, h => by
    refine closOf_sub r _ (fun m hm => hl m (List.mem_cons_of_mem _ hm)) (fun n' c' h' => ?_) n c h
    by_cases hk : (k == NameKind.free) = true
    · have hk' : k = .free := by simpa using hk
      subst hk'
      obtain ⟨cc, hc⟩ := hl m (List.mem_cons_self ..)
      simp only [beq_self_eq_true, if_true, List.lookup_cons, hc, Option.getD_some] at h'
      cases hn : n' == m with
      | true => rw [hn] at h'; have : n' = m := by simpa using hn
                subst this; rw [hc]; exact h'
      | false => rw [hn] at h'; exact ha n' c' h'
    · simp only [hk, if_false] at h'; exact ha n' c' h'
theorem closOf_has : ∀ (l : NM) (acc : List (Str × Addr)) (n : Str), (n, NameKind.free) ∈ l ∨ (acc.lookup n).isSome = true → ((closOf env l acc).lookup n).isSome = true
  | [], acc, n, h => h.elim (fun q => (nomatch q)) id
  | (m, k) :: r, acc, n, h => by
    refine closOf_has r _ n ?_
    rcases h with h | h
    · rcases List.mem_cons.mp h with e | h
      · cases e; right; simp
      · exact .inl h
    · right
      split
      · rw [List.lookup_cons]; split
        · rfl
        · exact h
      · exact h
theorem closOf_get {l : NM} (hl : ∀ n, (n, NameKind.free) ∈ l → ∃ c, env.cells.lookup n = some c) {n : Str} {cc : Addr} (hn : (n, NameKind.free) ∈ l) (hc : env.cells.lookup n = some cc) : (closOf env l []).lookup n = some cc := by
  obtain ⟨c', h'⟩ := Option.isSome_iff_exists.mp (closOf_has l [] n (.inl hn))
  have := closOf_sub l [] hl (fun _ _ q => (nomatch q)) n c' h'
  rw [hc] at this; cases this; exact h'

theorem kill_get {ks : List Nat} : ∀ {ρ : List PV} {i : Nat} {v : PV}, (kill ks ρ)[i]? = some v → v ≠ .undef → i ∉ ks ∧ ρ[i]? = some v := by
  induction ks with
  | nil => intro ρ i v h hv; exact ⟨by simp, h⟩
  | cons k ks ih =>
    intro ρ i v h hv
    have h' : (kill ks (ρ.set k .undef))[i]? = some v := h
    obtain ⟨h1, h2⟩ := ih h' hv
    rcases set_get h2 with ⟨rfl, rfl⟩ | ⟨h3, h4⟩
    · exact absurd rfl hv
    · exact ⟨fun q => (List.mem_cons.mp q).elim h3 h1, h4⟩
theorem setAll_keep : ∀ (is : List Nat) (l ρ : List PV) {i : Nat}, i ∉ is → (setAll ρ is l)[i]? = ρ[i]?
  | [], l, ρ, i, h => by cases l <;> rfl
  | k :: is, [], ρ, i, h => rfl
  | k :: is, v :: l, ρ, i, h => by
    show (setAll (ρ.set k v) is l)[i]? = _
    rw [setAll_keep is l _ (fun q => h (List.mem_cons_of_mem _ q)), List.getElem?_set_ne (by rintro rfl; exact h (List.mem_cons_self ..))]
theorem bindT_keep {t : Tgt} {v : PV} {ρ ρ1 : List PV} (hb : bindT t v ρ = some ρ1) {i : Nat} (hi : i ∉ tgtSlots t) : ρ1[i]? = ρ[i]? := by
  cases t with
  | one k => cases hb; exact List.getElem?_set_ne (fun q => hi (by rw [← q]; exact List.mem_singleton.mpr rfl))
  | many is =>
    cases v <;> first | cases hb | skip
    rename_i l
    have hb' : (if l.length = is.length then some (setAll ρ is l) else none) = some ρ1 := hb
    split at hb'
    · cases hb'; exact setAll_keep is l ρ hi
    · cases hb'

theorem FR.sub {ρ0 ρ1 : List PV} (F : FR C nm vm env ρ1 g h) (hs : ∀ (i : Nat) v, ρ0[i]? = some v → v ≠ .undef → ρ1[i]? = some v) : FR C nm vm env ρ0 g h :=
  ⟨F.kind, F.names, F.glob, F.blt, F.inj, let ⟨m, n1, n2⟩ := F.ns; ⟨m, n1, fun x i v a1 a2 a3 a4 => n2 x i v a1 a2 (hs i v a3 a4) a4⟩,
    fun x i a1 a2 => let ⟨cc, o, b1, b2, b3⟩ := F.cl x i a1 a2; ⟨cc, o, b1, b2, fun v a3 a4 => b3 v (hs i v a3 a4) a4⟩, F.offL, F.offC, F.cliv, F.apart, F.stk⟩

theorem lookup_map_kind {f : Str → NameKind → NameKind} : ∀ (l : NM) (x : Str), (l.map fun p => (p.1, f p.1 p.2)).lookup x = (l.lookup x).map (f x)
  | [], x => rfl
  | (n, k) :: r, x => by
    simp only [List.map_cons, List.lookup_cons]
    cases hx : x == n with
    | true => have : x = n := by simpa using hx
              subst this; rfl
    | false => exact lookup_map_kind r x
theorem compNames_lookup (nm own : NM) (x : Str) : (compNames nm own).lookup x = (own.lookup x).map fun k => if k == .free && nm.lookup x == some .cell then .cell else k := by
  rw [← lookup_map_kind (f := fun x k => if k == .free && nm.lookup x == some .cell then .cell else k)]
  unfold compNames
  congr 1
  refine List.map_congr_left fun p _ => ?_
  obtain ⟨n, k⟩ := p
  dsimp only
  split <;> rfl
theorem relabel_names (hk : env.scope.kind = .function) (hn : env.scope.names = nm) (scope : Scope) : (relabel scope env).names = compNames nm scope.names := by
  unfold relabel compNames
  refine List.map_congr_left fun p _ => ?_
  obtain ⟨n, k⟩ := p
  have e : env.kindOf n = nm.lookup n := by rw [← hn]; rfl
  simp only [hk, e, beq_self_eq_true, Bool.and_true]

theorem lookup_mem_pair {α : Type} : ∀ {l : List (Str × α)} {x : Str} {a : α}, l.lookup x = some a → (x, a) ∈ l
  | (n, b) :: r, x, a, h => by
    rw [List.lookup_cons] at h
    cases hx : x == n with
    | true => rw [hx] at h; cases h; have : x = n := by simpa using hx
              subst this; exact List.mem_cons_self ..
    | false => rw [hx] at h; exact List.mem_cons_of_mem _ (lookup_mem_pair h)
theorem lookup_inj {l : VM} (hn : (l.map (·.2)).Nodup) {x y : Str} {i : Nat} (h1 : l.lookup x = some i) (h2 : l.lookup y = some i) : x = y := by
  have m1 := lookup_mem_pair h1
  have m2 := lookup_mem_pair h2
  clear h1 h2
  induction l with
  | nil => cases m1
  | cons p r ih =>
    rw [List.map_cons, List.nodup_cons] at hn
    rcases List.mem_cons.mp m1 with e1 | e1 <;> rcases List.mem_cons.mp m2 with e2 | e2
    · rw [← e1] at e2; cases e2; rfl
    · subst e1; exact absurd (List.mem_map.mpr ⟨_, e2, rfl⟩) hn.1
    · subst e2; exact absurd (List.mem_map.mpr ⟨_, e1, rfl⟩) hn.1
    · exact ih hn.2 e1 e2
theorem zip_lookup : ∀ (ns : List Str) (is : List Nat) (vm : VM) (x : Str) (i : Nat), ns.length = is.length → (ns.zip is ++ vm).lookup x = some i → (x ∈ ns ∧ i ∈ is) ∨ (x ∉ ns ∧ vm.lookup x = some i)
  | [], is, vm, x, i, hl, h => .inr ⟨by simp, by simpa using h⟩
  | n :: ns, [], vm, x, i, hl, h => by cases hl
  | n :: ns, k :: is, vm, x, i, hl, h => by
    rw [List.zip_cons_cons, List.cons_append, List.lookup_cons] at h
    cases hx : x == n with
    | true => rw [hx] at h; cases h; have : x = n := by simpa using hx
              subst this; exact .inl ⟨List.mem_cons_self .., List.mem_cons_self ..⟩
    | false =>
      rw [hx] at h
      have hne : x ≠ n := by simpa using hx
      rcases zip_lookup ns is vm x i (by simpa using hl) h with ⟨a, b⟩ | ⟨a, b⟩
      · exact .inl ⟨List.mem_cons_of_mem _ a, List.mem_cons_of_mem _ b⟩
      · exact .inr ⟨fun q => (List.mem_cons.mp q).elim hne a, b⟩
theorem chkT_len {t : Tgt} {tg : Expr} (hc : chkT nm vm t tg = true) : (tgtNames tg).length = (tgtSlots t).length := by
  cases t with
  | one i => obtain ⟨x, p, rfl⟩ := fmName hc; rfl
  | many is =>
    obtain ⟨es, ctx, p, rfl⟩ := fmTup hc
    have key : ∀ (is : List Nat) (es : List Expr), chkNames nm vm is es = true → (namesOf es).length = is.length := by
      intro is
      induction is with
      | nil => intro es h; rw [chkNames_nil h]; rfl
      | cons i is ih =>
        intro es h
        obtain ⟨x, p, es', rfl, _, _, h3⟩ := chkNames_cons h
        show (namesOf es').length + 1 = is.length + 1
        rw [ih es' h3]
    exact key is es hc

structure CompOK (nm : NM) (vm : VM) (tg : Expr) (sc : Scope) : Prop where
  kind : sc.kind = .function
  nodup : (sc.names.map (·.1)).Nodup
  loc : ∀ n, (n, NameKind.local) ∈ sc.names → (n = (".0" : Str) ∧ vm.lookup n = none) ∨ n ∈ tgtNames tg
  free : ∀ n, (n, NameKind.free) ∈ sc.names → n ∉ tgtNames tg ∧ (∃ i, vm.lookup n = some i) ∧ isCellK (nm.lookup n) = true
  cell : ∀ x ∈ sc.names, x.2 ≠ .cell
theorem compOK_of {tg : Expr} {sc : Scope} (h : compScopeOk nm vm tg sc = true) : CompOK nm vm tg sc := by
  obtain ⟨h12, h3⟩ := and2 h
  obtain ⟨h1, h2⟩ := and2 h12
  have h3 := List.all_eq_true.mp h3
  refine ⟨by simpa using h1, of_decide_eq_true h2, fun n hn => ?_, fun n hn => ?_, fun x hx => ?_⟩
  · have := h3 _ hn
    simp only [Bool.or_eq_true, Bool.and_eq_true, beq_iff_eq, Option.isNone_iff_eq_none, List.contains_iff_mem] at this
    exact this
  · have := h3 _ hn
    simp only [Bool.or_eq_true, Bool.and_eq_true, beq_iff_eq, Bool.not_eq_true', Option.isSome_iff_exists] at this
    obtain ⟨⟨a1, a2⟩, a3⟩ := this
    refine ⟨fun q => ?_, a2, ?_⟩
    · have := List.contains_iff_mem.mpr q; rw [a1] at this; cases this
    · rcases a3 with e | e <;> rw [e] <;> rfl
  · have := h3 _ hx
    intro q
    obtain ⟨n, k⟩ := x
    dsimp only at q
    subst q
    cases this
theorem CompOK.names {tg : Expr} {sc : Scope} (h : CompOK nm vm tg sc) : ∀ x ∈ sc.names, x.2 = .local → sc.names.lookup x.1 = some .local := by
  intro x hx hl
  obtain ⟨n, k⟩ := x
  dsimp only at hl
  subst hl
  have hn := h.nodup
  generalize sc.names = l at hx hn
  induction l with
  | nil => cases hx
  | cons p r ih =>
    rw [List.map_cons, List.nodup_cons] at hn
    rw [List.lookup_cons]
    rcases List.mem_cons.mp hx with e | e
    · subst e; simp
    · have : (n == p.1) = false := by
        rw [beq_eq_false_iff_ne]; rintro rfl
        exact hn.1 (List.mem_map.mpr ⟨_, e, rfl⟩)
      rw [this]; exact ih e hn.2

theorem FR.freeCells (F : FR C nm vm env ρ g h) {tg : Expr} {sc : Scope} (ok : CompOK nm vm tg sc) : ∀ n, (n, NameKind.free) ∈ sc.names → ∃ c, env.cells.lookup n = some c := fun n hn => by
  obtain ⟨_, ⟨i, hi⟩, h3⟩ := ok.free n hn
  obtain ⟨cc, o, b1, _⟩ := F.cl n i hi h3
  exact ⟨cc, b1⟩

theorem FR.comp (F : FR C nm vm env ρ g h) {tg : Expr} {sc : Scope} {t : Tgt} (ok : CompOK nm vm tg sc) (hnd : ((compVM vm t tg).map (·.2)).Nodup) (hlen : (tgtNames tg).length = (tgtSlots t).length) {L : Addr} {m : Str → Option Value} (hL : h.Ns L m) (hoff : L ∉ g.μ ∧ ¬ g.Φ L) :
    FR C (compNames nm sc.names) (compVM vm t tg) (compEnvC sc (closOf env sc.names []) L env) (kill (tgtSlots t) ρ) g h where
  kind := ok.kind
  names := relabel_names F.kind F.names sc
  glob := F.glob
  blt := F.blt
  inj := fun x y i => lookup_inj hnd
  ns := ⟨m, hL, fun x i v a1 a2 a3 a4 => by
    rw [compNames_lookup] at a2
    obtain ⟨k, k1, k2⟩ := Option.map_eq_some_iff.mp a2
    have k3 : k = .local := by
      split at k2
      · cases k2
      · exact k2
    subst k3
    obtain ⟨q1, q2⟩ := kill_get a3 a4
    rcases zip_lookup _ _ vm x i hlen a1 with ⟨_, b⟩ | ⟨b1, b2⟩
    · exact absurd b q1
    · rcases ok.loc x (lookup_mem_pair k1) with ⟨_, e⟩ | e
      · rw [e] at b2; cases b2
      · exact absurd e b1⟩
  cl := fun x i a1 a2 => by
    rw [compNames_lookup] at a2
    cases hk : sc.names.lookup x with
    | none => rw [hk] at a2; cases a2
    | some k =>
      have hm := lookup_mem_pair hk
      have hkf : k = .free := by
        rw [hk] at a2
        cases k <;> first | rfl | skip
        all_goals first | (exact absurd rfl (ok.cell _ hm)) | (exact absurd (show false = true from a2) Bool.false_ne_true)
      subst hkf
      obtain ⟨f1, f2, f3⟩ := ok.free x hm
      rcases zip_lookup _ _ vm x i hlen a1 with ⟨b, _⟩ | ⟨b1, b2⟩
      · exact absurd b f1
      · obtain ⟨cc, o, c1, c2, c3⟩ := F.cl x i b2 f3
        exact ⟨cc, o, closOf_get (F.freeCells ok) hm c1, c2, fun v a3 a4 => c3 v (kill_get a3 a4).2 a4⟩
  offL := hoff
  offC := fun x cc hc => F.offC x cc (closOf_sub _ [] (F.freeCells ok) (fun _ _ q => (nomatch q)) x cc hc)
  cliv := fun x cc hc => F.cliv x cc (closOf_sub _ [] (F.freeCells ok) (fun _ _ q => (nomatch q)) x cc hc)
  apart := fun x y cc h1 h2 => F.apart x y cc (closOf_sub _ [] (F.freeCells ok) (fun _ _ q => (nomatch q)) x cc h1) (closOf_sub _ [] (F.freeCells ok) (fun _ _ q => (nomatch q)) y cc h2)
  stk := ⟨F.stk.1, fun L' hL' hn => by
    have q := F.full L' hL'
    refine ⟨fun x hx => ?_, q⟩
    have hx := closOf_sub _ [] (F.freeCells ok) (fun _ _ q => (nomatch q)) x L' hx
    obtain ⟨o, hc⟩ := F.cliv x L' hx
    obtain ⟨_, _, ob, h1, h2⟩ := q
    rw [cell_nd h1 hc] at h2; cases h2⟩
end Mine

set_option autoImplicit false
set_option backward.match.sparseCases true
set_option linter.unusedVariables false
namespace Mine
open PySem PyProof.Rows PySem.SeqAt

variable {C : Fix} {c : Cx} {σ σ' : AH} {g g' : Cfg} {h h' : Heap} {s s' : Shared} {own : Addr → Prop} {A : Around} {d : Nat} {nm : NM} {vm : VM} {env : Env} {ρ : List PV}
  {Q : Value → Shared → Prop} {E : Value → Shared → Prop}

theorem FR.ext' (F : FR C nm vm env ρ g s.heap) (R : C.Rel σ g s.heap) (e : Ext own g s g' s') (hoff : Off own g) (hL : ¬ own env.locals) (hC : ∀ x cc, env.cells.lookup x = some cc → ¬ own cc) (hS : ∀ L ∈ frs C, L ≠ env.locals → ¬ own L) : FR C nm vm env ρ g' s'.heap where
  kind := F.kind
  names := F.names
  glob := F.glob
  blt := F.blt
  inj := F.inj
  ns := by
    refine byC fun hZ => ?_
    obtain ⟨m, h1, h2⟩ := F.ns
    refine hZ ?_; clear hZ
    refine ⟨m, ?_, fun x i v a1 a2 a3 a4 => ?_⟩
    · exact e.keepNs h1 F.offL.1 hL
    · obtain ⟨y, b1, b2⟩ := h2 x i v a1 a2 a3 a4
      exact ⟨y, b1, VR_ext R e hoff b2⟩
  cl := fun x i a1 a2 => by
    refine byC fun hZ => ?_
    obtain ⟨cc, o, b1, b2, b3⟩ := F.cl x i a1 a2
    refine hZ ?_; clear hZ
    refine ⟨cc, o, b1, ?_, fun v a3 a4 => ?_⟩
    · obtain ⟨ob, ho, rest⟩ := id b2
      exact ⟨ob, e.keepN ho (F.offC x cc b1).1 (hC x cc b1) (cell_nd ho b2), rest⟩
    · obtain ⟨y, c1, c2⟩ := b3 v a3 a4
      exact ⟨y, c1, VR_ext R e hoff c2⟩
  offL := by
    obtain ⟨m, h1, _⟩ := F.ns
    obtain ⟨o, ho⟩ := Heap.Ns.live h1
    exact ⟨e.notμ ho F.offL.1, e.notΦ ho F.offL.2⟩
  offC := fun x cc b1 => by
    obtain ⟨o, ob, ho, _⟩ := F.cliv x cc b1
    exact ⟨e.notμ ho (F.offC x cc b1).1, e.notΦ ho (F.offC x cc b1).2⟩
  cliv := fun x cc b1 => by
    obtain ⟨o, q⟩ := F.cliv x cc b1
    obtain ⟨ob, ho, rest⟩ := id q
    exact ⟨o, ob, e.keepN ho (F.offC x cc b1).1 (hC x cc b1) (cell_nd ho q), rest⟩
  apart := F.apart
  stk := F.stk.ext e hS

theorem Ext.drop (x : Ext noOwn g s g' s') {g2 : Cfg} {s2 : Shared} (y : Ext own g' s' g2 s2) (hn : ∀ a, own a → s.heap.get? a = none) : Ext noOwn g s g2 s2 :=
  let z := x.weaken.trans y
  have hno : ∀ b o, s.heap.get? b = some o → ¬ own b := fun b o e q => by rw [hn b q] at e; cases e
  { z with keep := fun b o e hb _ => z.keep b o e hb (hno b o e), keepF := fun b o e hb _ => z.keepF b o e hb (hno b o e) }

theorem compLoop_gen {R : Result → Shared → Prop} {elt target iter : Expr} {ifs : List Expr} {scope : Scope} {pos : Pos} {it acc : Value} {env : Env} (I : Nat → Shared → Prop)
    (turn : ∀ n s, I n s → wpAny (model C.prog C.w) A (pyNext it) (fun r s₁ => match r with
      | none => R (.ok .next) s₁
      | some v => wpAny (model C.prog C.w) A (letOwnedTupleGo target it v) (fun _ s₁' => wpAny (model C.prog C.w) A (assign target env v) (fun _ s₂ =>
          wpAny (model C.prog C.w) A (forIn ifs true fun c r => if r = true then do let ok ← isTrue c env (eval c env); pure (ForInStep.yield ok) else pure (ForInStep.yield r)) (fun ok s₃ =>
            if ok = true then wpAny (model C.prog C.w) A (eval elt env) (fun x s₄ =>
              wpAny (model C.prog C.w) A (call (.builtin "list.append") [acc, x]) (fun _ s₅ => ∃ m, m < n ∧ I m s₅) (notedBy (model C.prog C.w) A env fun e s' => R (.error e) s') s₄) (notedBy (model C.prog C.w) A env fun e s' => R (.error e) s') s₃
            else ∃ m, m < n ∧ I m s₃) (notedBy (model C.prog C.w) A env fun e s' => R (.error e) s') s₂) (notedBy (model C.prog C.w) A env fun e s' => R (.error e) s') s₁') (notedBy (model C.prog C.w) A env fun e s' => R (.error e) s') s₁) (notedBy (model C.prog C.w) A env fun e s' => R (.error e) s') s)
    (n : Nat) (h : I n s) :
    codeAny (model C.prog C.w) A (.compLoop (.ListComp elt [⟨target, iter, ifs, 0⟩] scope pos) 0 it acc env) R s := by
  refine codeAny_loop rfl I (fun n s hI => ?_) n h
  show wpAny _ A ((compTurn (.ListComp elt [⟨target, iter, ifs, 0⟩] scope pos) 0 it acc env).onRaise (fun x => do noteFrame x env; theTreesLotGoes x)) _ _ s
  refine wpAny_noted ?_
  rw [compTurn_list]
  refine wpAny_bind (wpAny_standAt (wpAny_bind (wpAny_mono (turn n s hI) (fun r s₁ h₁ => ?_) fun _ _ h' => h')))
  cases r with
  | none => exact wpAny_pure h₁
  | some v =>
    refine wpAny_bind (wpAny_mono h₁ (fun _ s₁' h₁' => ?_) fun _ _ h' => h')
    refine wpAny_bind (wpAny_mono h₁' (fun _ s₂ h₂ => wpAny_bind (wpAny_mono h₂ (fun ok s₃ h₃ => ?_) fun _ _ h' => h')) fun _ _ h' => h')
    cases ok with
    | false => exact wpAny_pure ⟨rfl, h₃⟩
    | true =>
      exact wpAny_bind (wpAny_bind (wpAny_mono h₃ (fun x s₄ h₄ => wpAny_bind (wpAny_mono h₄ (fun _ s₅ h₅ => wpAny_pure (wpAny_pure ⟨rfl, h₅⟩)) fun _ _ h' => h')) fun _ _ h' => h'))

structure CS (C : Fix) (L D I : Addr) (fp : List Addr) (St : Nat → Heap → Prop) (nm : NM) (vm : VM) (env : Env) (ρ : List PV) (i : Nat) (done : List PV) (σ : AH) (g : Cfg) (s : Shared) : Prop where
  rel : C.Rel σ g s.heap
  fr : FR C nm vm env ρ g s.heap
  st : St i s.heap
  acc : ∃ ws, IsListX s.heap D ws ∧ C.VRs g s.heap done ws.toList
  offI : I ∉ g.μ ∧ ¬ g.Φ I
  offD : D ∉ g.μ ∧ ¬ g.Φ D
  liveI : ∃ o, s.heap.get? I = some o ∧ dD o = false
  keep : ∀ b ∈ fp, Fast g s.heap b

structure CF (C : Fix) (L D I : Addr) (fp : List Addr) (env : Env) : Prop where
  hL : env.locals = L
  LI : L ≠ I
  LD : L ≠ D
  DI : D ≠ I
  fpL : L ∉ fp
  fpD : D ∉ fp
  cI : ∀ x cc, env.cells.lookup x = some cc → cc ≠ I ∧ cc ≠ D ∧ cc ≠ L
  sI : ∀ b ∈ frs C, b ≠ I ∧ b ≠ D

variable {L D I : Addr} {fp : List Addr} {St : Nat → Heap → Prop} {i n : Nat} {done : List PV} {P : Nat → Value → Prop}

theorem CS.eval (x : CS C L D I fp St nm vm env ρ i done σ g s) (W : Walks C.prog C.w A I fp [I] n P St) (e : Ext noOwn g s g' s') (R' : C.Rel σ' g' s'.heap) : CS C L D I fp St nm vm env ρ i done σ' g' s' where
  rel := R'
  fr := x.fr.ext x.rel e
  st := W.frame _ _ _ x.st fun b hb o ho => (e.fast (fun q => q) (x.keep b hb)).2 o ho
  acc := by
    obtain ⟨ws, ⟨n, e1⟩, e2⟩ := x.acc
    exact ⟨ws, ⟨n, e.keepN e1 x.offD.1 (fun q => q) rfl⟩, VRs_ext x.rel e Off.none e2⟩
  offI := by obtain ⟨o, ho, _⟩ := x.liveI; exact ⟨e.notμ ho x.offI.1, e.notΦ ho x.offI.2⟩
  offD := by obtain ⟨ws, ⟨n, ho⟩, _⟩ := x.acc; exact ⟨e.notμ ho x.offD.1, e.notΦ ho x.offD.2⟩
  liveI := by obtain ⟨o, ho, hd⟩ := x.liveI; exact ⟨o, e.keepN ho x.offI.1 (fun q => q) hd, hd⟩
  keep := fun b hb => (e.fast (fun q => q) (x.keep b hb)).1

theorem CS.next (F0 : CF C L D I fp env) (x : CS C L D I fp St nm vm env ρ i done σ g s) {h' : Heap} {tk j : Nat} (hk : ∀ b o, b ∉ [I] → s.heap.get? b = some o → h'.get? b = some o) (hst : St j h') (hI : ∃ o, h'.get? I = some o ∧ dD o = false) :
    CS C L D I fp St nm vm env ρ j done σ g { s with heap := h', toks := tk } ∧ Ext (· = I) g s g { s with heap := h', toks := tk } := by
  have hk' : ∀ b o, b ≠ I → s.heap.get? b = some o → h'.get? b = some o := fun b o hb e => hk b o (by simpa using hb) e
  have e : Ext (· = I) g s g { s with heap := h', toks := tk } := Ext.heap (fun b o e _ hb => hk' b o hb e) fun b hb => by
    by_cases hbI : b = I
    · subst hbI; obtain ⟨o, ho, _⟩ := hI; exact isSome_of ho
    · obtain ⟨o, ho⟩ := Option.isSome_iff_exists.mp hb; exact isSome_of (hk' b o hbI ho)
  have hoff : Off (· = I) g := fun b hb => by subst hb; exact x.offI
  have kept : Kept g s.heap h' := .of_but hk' x.offI
  refine ⟨⟨x.rel.kept kept, x.fr.ext' x.rel e hoff (fun q => F0.LI (F0.hL ▸ q)) (fun y cc hc q => (F0.cI y cc hc).1 q) (fun b hb _ => (F0.sI b hb).1), hst, ?_, x.offI, x.offD, hI, fun b hb => ?_⟩, e⟩
  · obtain ⟨ws, ⟨n, e1⟩, e2⟩ := x.acc
    exact ⟨ws, ⟨n, hk' _ _ F0.DI e1⟩, VRs_kept (C := C) kept e2⟩
  · by_cases hbI : b = I
    · subst hbI; obtain ⟨o, ho, hd⟩ := hI; exact ⟨o, ho, .inl ⟨x.offI.1, .inr hd⟩⟩
    · exact (x.keep b hb).but fun o ho => hk' b o hbI ho

theorem CS.store (F0 : CF C L D I fp env) (x : CS C L D I fp St nm vm env ρ i done σ g s) (W : Walks C.prog C.w A I fp [I] n P St) {ρ' : List PV} (e : Ext (· = L) g s g s') (F' : FR C nm vm env ρ' g s'.heap) (R' : C.Rel σ g s'.heap) :
    CS C L D I fp St nm vm env ρ' i done σ g s' := by
  have hoff : Off (· = L) g := fun b hb => by subst hb; exact F0.hL ▸ x.fr.offL
  refine ⟨R', F', W.frame _ _ _ x.st fun b hb o ho => (e.fast (fun q => F0.fpL (q ▸ hb)) (x.keep b hb)).2 o ho, ?_, x.offI, x.offD, ?_, fun b hb => (e.fast (fun q => F0.fpL (q ▸ hb)) (x.keep b hb)).1⟩
  · obtain ⟨ws, ⟨n, e1⟩, e2⟩ := x.acc
    exact ⟨ws, ⟨n, e.keepN e1 x.offD.1 (Ne.symm F0.LD) rfl⟩, VRs_ext x.rel e hoff e2⟩
  · obtain ⟨o, ho, hd⟩ := x.liveI; exact ⟨o, e.keepN ho x.offI.1 (Ne.symm F0.LI) hd, hd⟩

theorem CS.push (F0 : CF C L D I fp env) (x : CS C L D I fp St nm vm env ρ i done σ g s) (W : Walks C.prog C.w A I fp [I] n P St) {u : PV} {y : Value} (hy : C.VR g s.heap u y) (hd : done.length ≤ 1000000)
    (hq : ∀ h', CS C L D I fp St nm vm env ρ i (done ++ [u]) σ g { s with heap := h' } → Ext (· = D) g s g { s with heap := h' } → Q .none { s with heap := h' }) :
    wpAny (model C.prog C.w) A (call (.builtin "list.append") [.ref D, y]) Q E s := by
  refine byC fun hZ => ?_
  obtain ⟨ws, ⟨n, e1⟩, e2⟩ := x.acc
  refine hZ ?_; clear hZ
  have hsz := e2.size
  refine wpAny_list_append_plain ⟨n, e1⟩ (fun h' hx' hsb => ?_) (by rw [hsz, sizeLine_eq]; exact om250 hd)
  obtain ⟨n', hx'⟩ := hx'
  have hk' : ∀ b o, b ≠ D → s.heap.get? b = some o → h'.get? b = some o := fun b o hb e => by rw [hsb.2 b hb]; exact e
  have e : Ext (· = D) g s g { s with heap := h' } := Ext.heap (tk := s.toks) (fun b o e _ hb => hk' b o hb e) fun b hb => by
    by_cases hbI : b = D
    · subst hbI; exact isSome_of hx'
    · obtain ⟨o, ho⟩ := Option.isSome_iff_exists.mp hb; exact isSome_of (hk' b o hbI ho)
  have hoff : Off (· = D) g := fun b hb => by subst hb; exact x.offD
  have kept : Kept g s.heap h' := .of_but hk' x.offD
  refine hq h' ⟨x.rel.kept kept, x.fr.ext' x.rel e hoff (fun q => F0.LD (F0.hL ▸ q)) (fun y cc hc q => (F0.cI y cc hc).2.1 q) (fun b hb _ => (F0.sI b hb).2), W.frame _ _ _ x.st fun b hb o ho => hk' b o (fun q => F0.fpD (q ▸ hb)) ho, ⟨_, ⟨n', hx'⟩, ?_⟩, x.offI, x.offD, ?_, fun b hb => (x.keep b hb).but fun o ho => hk' b o (fun q => F0.fpD (q ▸ hb)) ho⟩ e
  · rw [Array.toList_push]
    exact (VRs_kept (C := C) kept e2).append (.cons (VR_kept (C := C) kept hy) .nil)
  · obtain ⟨o, ho, hd⟩ := x.liveI; exact ⟨o, hk' _ _ (Ne.symm F0.DI) ho, hd⟩

theorem CS.sub {ρ0 : List PV} (x : CS C L D I fp St nm vm env ρ i done σ g s) (hs : ∀ (i : Nat) v, ρ0[i]? = some v → v ≠ .undef → ρ[i]? = some v) : CS C L D I fp St nm vm env ρ0 i done σ g s :=
  ⟨x.rel, x.fr.sub hs, x.st, x.acc, x.offI, x.offD, x.liveI, x.keep⟩

theorem Ext.after (x : Ext noOwn g s g' s') {tk : Nat} (hk : ∀ b o, b ≠ I → s'.heap.get? b = some o → h'.get? b = some o) (hI : s.heap.get? I = none) : Ext noOwn g s g' { s' with heap := h', toks := tk } :=
  ⟨x.pre, x.sub, x.newμ, x.newΦ, x.lock, fun b o e q1 q2 => let ⟨o', h1, h2⟩ := x.keep b o e q1 q2; ⟨o', hk b o' (fun q => by rw [q, hI] at e; cases e) h1, h2⟩, fun b o e q1 q2 => hk b o (fun q => by rw [q, hI] at e; cases e) (x.keepF b o e q1 q2), fun b hb => by
    obtain ⟨o, ho⟩ := Option.isSome_iff_exists.mp (x.live b hb)
    exact isSome_of (hk b o (fun q => by rw [q, hI] at hb; cases hb) ho), x.gens, x.os⟩

noncomputable def own3 (L D I : Addr) : Addr → Prop := fun b => b = I ∨ b = D ∨ b = L

theorem compL_cons {cond elt : List PV → AH → Res PV} {t : Tgt} {x : PV} {xs : List PV} {r : Res (List PV)} (h : compL cond elt t ρ (x :: xs) σ = r) (hb : r ≠ .bad) : ∃ ρ1 b σ1 q, bindT t x ρ = some ρ1 ∧ cond ρ1 σ = .ok b σ1 ∧ truth σ1 b = some q ∧
    ((q = true ∧ ((∃ v σ2, elt ρ1 σ1 = .ok v σ2 ∧ r = (compL cond elt t ρ xs σ2).bindX fun vs σ3 => .ok (v :: vs) σ3) ∨ ∃ k σ2, elt ρ1 σ1 = .exc k σ2 ∧ r = .exc k σ2)) ∨ (q = false ∧ compL cond elt t ρ xs σ1 = r)) := by
  rw [compL_c] at h
  cases hb1 : bindT t x ρ with
  | none => rw [hb1] at h; exact absurd h.symm hb
  | some ρ1 =>
    rw [hb1] at h
    simp only at h
    cases hc : cond ρ1 σ with
    | exc => rw [hc] at h; exact absurd h.symm hb
    | bad => rw [hc] at h; exact absurd h.symm hb
    | ok b σ1 =>
      rw [hc] at h
      simp only [Res.bind] at h
      cases ht : truth σ1 b with
      | none => rw [ht] at h; exact absurd h.symm hb
      | some q =>
        rw [ht] at h
        cases q with
        | false => exact ⟨ρ1, b, σ1, false, rfl, hc, ht, .inr ⟨rfl, h⟩⟩
        | true =>
          simp only at h
          cases he : elt ρ1 σ1 with
          | exc k σ2 => rw [he] at h; exact ⟨ρ1, b, σ1, true, rfl, hc, ht, .inl ⟨rfl, .inr ⟨k, σ2, he, h.symm⟩⟩⟩
          | bad => rw [he] at h; exact absurd h.symm hb
          | ok v σ2 => rw [he] at h; exact ⟨ρ1, b, σ1, true, rfl, hc, ht, .inl ⟨rfl, .inl ⟨v, σ2, he, h.symm⟩⟩⟩
noncomputable def preR (done : List PV) (r : Res (List PV)) : Res (List PV) := r.bindX fun vs σ => .ok (done ++ vs) σ
theorem preR_cons {done : List PV} {v : PV} (r : Res (List PV)) : preR done (r.bindX fun vs σ3 => .ok (v :: vs) σ3) = preR (done ++ [v]) r := by
  cases r with
  | ok vs σ => show Res.ok (done ++ v :: vs) σ = .ok (done ++ [v] ++ vs) σ; rw [List.append_assoc]; rfl
  | exc => rfl
  | bad => rfl
theorem preR_nb {done : List PV} {r : Res (List PV)} (h : preR done r ≠ .bad) : r ≠ .bad := fun q => h (by rw [q]; rfl)

theorem chkT_list {t : Tgt} {tg : Expr} (hc : chkT nm vm t tg = true) : ∀ es p, tg ≠ .List es p := by
  rintro es p rfl
  cases t <;> exact absurd (show false = true from hc) Bool.false_ne_true

theorem isTT_eq {cond : PE} (h : isTT cond = true) : cond = .const (.bool true) := by
  cases cond <;> try cases h
  rename_i k
  cases k <;> try cases h
  rename_i b
  cases b <;> first | rfl | cases h

theorem comp_loop {elt cond : PE} {m : Nat} {t : Tgt} {e' tg iter : Expr} {ifs : List Expr} {sc : Scope} {pos : Pos} {l : List PV} {out : Res (List PV)} {gs : Cfg} {ss : Shared} {σs : AH} {R : Result → Shared → Prop}
    (hE : SndE C c d elt) (hT : SndT C c d cond) (hA : AOK C A d) (F0 : CF C L D I fp env) (W : Walks C.prog C.w A I fp [I] l.length P St) (hpl : ∀ i h, St i h → PlainIter h I)
    (hcE : chkE elt nm vm e' = true) (hcC : ifsOk (isTT cond) (chkE cond nm vm) ifs = true) (hcT : chkT nm vm t tg = true)
    (hcell : ∀ x ∈ tgtNames tg, nm.lookup x ≠ some .cell)
    (hρ : ∀ (i : Nat) v, ρ[i]? = some v → v ≠ .undef → i ∉ tgtSlots t)
    (Rs : C.Rel σs gs ss.heap) (hP : ∀ i z u, P i z → l[i]? = some u → C.VR gs ss.heap u z) (hoff : Off (own3 L D I) gs) (hlen : l.length ≤ 1000000) (hnb : out ≠ .bad)
    (hX : ∀ k σE gn sn e, out = .exc k σE → Ext (own3 L D I) gs ss gn sn → C.Rel σE gn sn.heap → XH C (lvs ss) gn k e sn.heap → StkC C gn sn.heap → (∃ m, sn.heap.Ns L m) → (L ∉ gn.μ ∧ ¬ gn.Φ L) → R (.error (.ref e)) sn)
    (hR : ∀ vs σE, out = .ok vs σE → ∀ gn sn h' tk, C.Rel σE gn h' → FR C nm vm env ρ gn h' → (∃ ws, IsListX h' D ws ∧ C.VRs gn h' vs ws.toList) → (D ∉ gn.μ ∧ ¬ gn.Φ D) → Ext (own3 L D I) gs ss gn sn → (∀ b o, b ≠ I → sn.heap.get? b = some o → h'.get? b = some o) → R (.ok .next) { sn with heap := h', toks := tk }) :
    ∀ (k i : Nat) (gi : Cfg) (si : Shared) (σi : AH) (done : List PV), i ≤ l.length → k = l.length - i → CS C L D I fp St nm vm env ρ i done σi gi si → Ext (own3 L D I) gs ss gi si → done.length ≤ i → preR done (compL (ev c cond 0) (ev c elt m) t ρ (l.drop i) σi) = out →
      codeAny (model C.prog C.w) A (.compLoop (.ListComp e' [⟨tg, iter, ifs, 0⟩] sc pos) 0 (.ref I) (.ref D) env) R si := by
  intro k i gi si σi done hi hk X0 E0 hdl hrun
  refine compLoop_gen (fun k s' => ∃ i gi σi done, i ≤ l.length ∧ k = l.length - i ∧ CS C L D I fp St nm vm env ρ i done σi gi s' ∧ Ext (own3 L D I) gs ss gi s' ∧ done.length ≤ i ∧ preR done (compL (ev c cond 0) (ev c elt m) t ρ (l.drop i) σi) = out) ?_ k ⟨i, gi, σi, done, hi, hk, X0, E0, hdl, hrun⟩
  clear hrun hdl E0 X0 hk hi
  intro k s' H
  refine byC fun hZ => ?_
  obtain ⟨i, gi, σi, done, hi, rfl, X, E0, hdl, hrun⟩ := H
  refine hZ ?_; clear hZ
  by_cases hin : i = l.length
  · subst hin
    have hrun : Res.ok (done ++ []) σi = out := by rw [List.drop_length, compL_0] at hrun; exact hrun
    rw [List.append_nil] at hrun
    refine W.done s' _ _ X.st fun h' tk hk => ?_
    have hk' : ∀ b o, b ≠ I → s'.heap.get? b = some o → h'.get? b = some o := fun b o hb e => hk b o (by simpa using hb) e
    have kept : Kept gi s'.heap h' := .of_but hk' X.offI
    have hfr : FR C nm vm env ρ gi h' := by
      refine byC fun hZ => ?_
      obtain ⟨m', n1, n2⟩ := X.fr.ns
      refine hZ ?_; clear hZ
      refine ⟨X.fr.kind, X.fr.names, X.fr.glob, X.fr.blt, X.fr.inj, ⟨m', ?_, fun x i v a1 a2 a3 a4 => ?_⟩, fun x i a1 a2 => ?_, X.fr.offL, X.fr.offC, fun x cc b1 => ?_, X.fr.apart, X.fr.stk.but hk' fun b hb _ => (F0.sI b hb).1⟩
      · obtain ⟨o, es, ep, ho, r⟩ := n1
        exact ⟨o, es, ep, hk' _ _ (F0.hL ▸ F0.LI) ho, r⟩
      · obtain ⟨y, b1, b2⟩ := n2 x i v a1 a2 a3 a4; exact ⟨y, b1, VR_kept (C := C) kept b2⟩
      · refine byC fun hZ => ?_
        obtain ⟨cc, o, b1, ⟨ob, b2, b2'⟩, b3⟩ := X.fr.cl x i a1 a2
        refine hZ ?_; clear hZ
        exact ⟨cc, o, b1, ⟨ob, hk' _ _ (F0.cI x cc b1).1 b2, b2'⟩, fun v a3 a4 => let ⟨y, c1, c2⟩ := b3 v a3 a4; ⟨y, c1, VR_kept (C := C) kept c2⟩⟩
      · obtain ⟨o, ob, b2, b2'⟩ := X.fr.cliv x cc b1
        exact ⟨o, ob, hk' _ _ (F0.cI x cc b1).1 b2, b2'⟩
    obtain ⟨ws, ⟨n, e1⟩, e2⟩ := X.acc
    exact hR done σi hrun.symm gi s' h' tk (X.rel.kept kept) hfr ⟨ws, ⟨n, hk' _ _ F0.DI e1⟩, VRs_kept (C := C) kept e2⟩ X.offD E0 hk'
  · have hlt : i < l.length := Nat.lt_of_le_of_ne hi hin
    have hdrop : l.drop i = l[i] :: l.drop (i + 1) := List.drop_eq_getElem_cons hlt
    rw [hdrop] at hrun
    refine byC fun hZ => ?_
    obtain ⟨ρ1, b, σ1, q, hb, hc1, hc2, hc3⟩ := compL_cons rfl (preR_nb (hrun ▸ hnb))
    refine hZ ?_; clear hZ
    refine W.item i s' _ _ hlt X.st fun z h' tk hz hst hk => ?_
    refine byC fun hZ => ?_
    obtain ⟨ob, nI, q1, q2, q3, q4⟩ := hpl (i + 1) h' hst
    obtain ⟨X1, e1⟩ := X.next F0 (tk := tk) hk hst ⟨ob, q1, q4⟩
    refine hZ ?_; clear hZ
    refine owned_go (.inl ⟨ob, nI, q1, q2, q3, q4⟩) (chkT_list hcT) ?_
    have sub1 : ∀ {own' : Addr → Prop} {g s g' s'}, (∀ a, own' a → own3 L D I a) → Ext own' g s g' s' → Ext (own3 L D I) g s g' s' := fun h e => e.mono h
    have E1 := E0.trans (e1.mono fun a ha => .inl ha)
    have hv : C.VR gi h' l[i] z := VR_ext Rs E1 hoff (hP i z _ hz (by simp [hlt]))
    have hoffL : Off (· = L) gi := fun b hb => by subst hb; exact F0.hL ▸ X1.fr.offL
    refine assign_sound (own := (· = L)) hA.hand hoffL F0.hL hcT X1.fr X1.rel hv (fun x hx hc => absurd hc (hcell x hx)) hb fun s2 F2 R2 e2 => ?_
    have X2 := X1.store F0 W e2 F2 R2
    have E2 := E1.trans (e2.mono fun a ha => .inr (.inr ha))
    have back : ∀ (j : Nat) v, ρ[j]? = some v → v ≠ .undef → ρ1[j]? = some v := fun j v h1 h2 => by rw [bindT_keep hb (hρ j v h1 h2)]; exact h1
    have tests : ∀ (Q' : Bool → Shared → Prop) (E' : Value → Shared → Prop), (∀ g3 s3, Ext noOwn gi s2 g3 s3 → C.Rel σ1 g3 s3.heap → Q' q s3) → wpAny (model C.prog C.w) A (forIn ifs true fun c r => if r = true then do let ok ← isTrue c env (eval c env); pure (ForInStep.yield ok) else pure (ForInStep.yield r)) Q' E' s2 := by
      intro Q' E' hQ'
      rcases ifs with _ | ⟨e2', _ | ⟨e3', r3⟩⟩
      · have hco : cond = .const (.bool true) := isTT_eq hcC
        subst hco
        replace hc1 := ok_inj hc1
        obtain ⟨rfl, rfl⟩ := hc1
        cases hc2
        exact wpAny_tests_nil (hQ' gi s2 (Ext.refl _ _) R2)
      · exact wpAny_tests_one (hT nm vm e2' env ρ1 σi gi s2 A _ _ hcC F2 R2 hA (PostT.mk hc1 hc2 hQ'))
      · cases hcC
    refine tests _ _ fun g3 s3 e3 R3 => ?_
    have X3 := X2.eval W e3 R3
    have E3 := E2.trans e3.weaken
    rcases hc3 with ⟨rfl, ⟨v, σ2, hv1, hv2⟩ | ⟨kx, σ2, hv1, hv2⟩⟩ | ⟨rfl, hv2⟩
    rotate_left
    · simp only [if_true]
      refine hE nm vm e' env m ρ1 σ1 g3 s3 A _ _ hcE X3.fr R3 hA (PostE.ex hv1 ?_)
      rintro s4 e ⟨g4, e4, R4, y4, S4⟩
      rw [hv2] at hrun
      refine note_thrownH hA.fs hA.fk X3.fr.stk.1 e4 R4 S4 y4 fun h5 x5 R5 y5 S5 => ?_
      refine byC fun hZ => ?_
      obtain ⟨mL, n1, _⟩ := X3.fr.ns
      obtain ⟨oL, nL⟩ := Heap.Ns.live n1
      refine hZ ?_; clear hZ
      have hL := F0.hL
      subst hL
      exact hX kx σ2 g4 _ e hrun.symm (E3.trans x5.weaken) R5 (y5.mono E3.live) S5 ⟨mL, x5.keepNs n1 X3.fr.offL.1 fun q => q⟩ ⟨x5.notμ nL X3.fr.offL.1, x5.notΦ nL X3.fr.offL.2⟩
    rotate_left
    · simp only [if_true]
      refine hE nm vm e' env m ρ1 σ1 g3 s3 A _ _ hcE X3.fr R3 hA (PostE.mk hv1 fun g4 s4 y e4 R4 v4 => ?_)
      have X4 := X3.eval W e4 R4
      have E4 := E3.trans e4.weaken
      refine X4.push F0 W v4 (Nat.le_trans hdl (Nat.le_trans hi hlen)) fun h5 X5 e5 => ?_
      rw [hv2, preR_cons] at hrun
      refine ⟨l.length - (i + 1), by exact om304 hlt, i + 1, g4, σ2, done ++ [v], by exact om32 hlt, rfl, X5.sub back, E4.trans (e5.mono fun a ha => .inr (.inl ha)), by rw [List.length_append]; exact Nat.succ_le_succ hdl, hrun⟩
    · simp only [Bool.false_eq_true, if_false]
      exact ⟨l.length - (i + 1), by exact om304 hlt, i + 1, g3, σ1, done, by exact om32 hlt, rfl, X3.sub back, E3, Nat.le_succ_of_le hdl, hv2 ▸ hrun⟩
end Mine

set_option autoImplicit false
set_option backward.match.sparseCases true
set_option linter.unusedVariables false
namespace Mine
open PySem PyProof.Rows PySem.SeqAt

variable {C : Fix} {c : Cx} {σ σ' : AH} {g g' : Cfg} {h h' : Heap} {s s' : Shared} {own : Addr → Prop} {A : Around} {d : Nat} {nm : NM} {vm : VM} {env : Env} {ρ : List PV}
  {Q : Value → Shared → Prop} {E : Value → Shared → Prop}

theorem comp_chk {elt it cond : PE} {t : Tgt} {e : Expr} (hc : chkE (.comp elt t it cond) nm vm e = true) : ∃ e' tg it' ifs sc pos, e = .ListComp e' [⟨tg, it', ifs, 0⟩] sc pos ∧ chkE it nm vm it' = true ∧ CompOK nm vm tg sc ∧ ((compVM vm t tg).map (·.2)).Nodup ∧
    chkT (compNames nm sc.names) (compVM vm t tg) t tg = true ∧ chkE elt (compNames nm sc.names) (compVM vm t tg) e' = true ∧ ifsOk (isTT cond) (chkE cond (compNames nm sc.names) (compVM vm t tg)) ifs = true := by
  refine byC fun hZ => ?_
  obtain ⟨e', gens, sc, pos, rfl⟩ := fmComp hc
  refine hZ ?_; clear hZ
  rcases gens with _ | ⟨⟨tg, it', ifs, ia⟩, _ | ⟨g2, gs⟩⟩
  · exact absurd (show false = true from hc) Bool.false_ne_true
  · skip
    refine byC fun hZ => ?_
    obtain ⟨h123456, h7⟩ := and2 hc
    obtain ⟨h12345, h6⟩ := and2 h123456
    obtain ⟨h1234, h5⟩ := and2 h12345
    obtain ⟨h123, h4⟩ := and2 h1234
    obtain ⟨h12, h3⟩ := and2 h123
    obtain ⟨h1, h2⟩ := and2 h12
    refine hZ ?_; clear hZ
    have h1 := of_decide_eq_true h1
    subst h1
    exact ⟨e', tg, it', ifs, sc, pos, rfl, h2, compOK_of h3, of_decide_eq_true h4, h5, h6, h7⟩
  · exact absurd (show false = true from hc) Bool.false_ne_true

structure CompEnd (C : Fix) (g : Cfg) (s : Shared) (σ' : AH) (vs : List PV) (D L : Addr) (g' : Cfg) (s' : Shared) : Prop where
  ext : Ext noOwn g s g' s'
  rel : C.Rel σ' g' s'.heap
  newD : s.heap.get? D = none
  offD : D ∉ g'.μ ∧ ¬ g'.Φ D
  acc : ∃ ws, IsListX s'.heap D ws ∧ C.VRs g' s'.heap vs ws.toList
  ns : ∃ m, s'.heap.Ns L m
  newL : s.heap.get? L = none
  offL : L ∉ g'.μ ∧ ¬ g'.Φ L
  LD : L ≠ D
structure CompX (C : Fix) (g : Cfg) (s : Shared) (σ' : AH) (k : Str) (e L : Addr) (g' : Cfg) (s' : Shared) : Prop where
  ext : Ext noOwn g s g' s'
  rel : C.Rel σ' g' s'.heap
  xh : XH C (lvs s) g' k e s'.heap
  stk : StkC C g' s'.heap
  ns : ∃ m, s'.heap.Ns L m
  newL : s.heap.get? L = none
  offL : L ∉ g'.μ ∧ ¬ g'.Φ L
  frL : L ∉ frs C
theorem CompX.thrown {σ' : AH} {k : Str} {e L : Addr} {cenv : Env} {M : Model} {α : Type} {what : String} {Q : α → Shared → Prop} (hT : HeadF C cenv) (x : CompX C g s σ' k e L g' s') {h' : Heap} (hs : Heap.SameBut L s'.heap h') (hq : ∀ s2, Thrown C noOwn g s σ' k e s2 → E (.ref e) s2) :
    wpAny M A (PySem.passOn what (.ref e) cenv : Sem α) Q E { s' with heap := h' } := by
  refine byC fun hZ => ?_
  obtain ⟨m, hn⟩ := x.ns
  refine hZ ?_; clear hZ
  have hk' : ∀ b o, b ≠ L → s'.heap.get? b = some o → h'.get? b = some o := fun b o hb e => by rw [hs.2 b hb]; exact e
  have kept : Kept g' s'.heap h' := .of_but hk' x.offL
  have hnl : ¬ lvs s L := fun q => by unfold lvs at q; rw [x.newL] at q; cases q
  refine pass_on (s2 := { s' with heap := h' }) hT (x.ext.after (tk := s'.toks) hk' x.newL) (x.rel.kept kept) (fun b hb => ?_) (x.xh.letGo hn hs x.offL.1 x.offL.2 hnl x.frL) fun h2 a1 a2 a3 a4 => hq _ ⟨g', a1, a2, .inr (.inr a3), a4⟩
  obtain ⟨h1, h2, o, h3, h4⟩ := x.stk b hb
  exact ⟨h1, h2, o, hk' b o (fun q => x.frL (q ▸ hb)) h3, h4⟩
theorem CompEnd.letGo {σ' : AH} {vs : List PV} {D L : Addr} (x : CompEnd C g s σ' vs D L g' s') {h' : Heap} (hs : Heap.SameBut L s'.heap h') :
    Ext noOwn g s g' { s' with heap := h' } ∧ C.Rel σ' g' h' ∧ FrsR C g' h' (.list vs) D := by
  have hk' : ∀ b o, b ≠ L → s'.heap.get? b = some o → h'.get? b = some o := fun b o hb e => by rw [hs.2 b hb]; exact e
  have kept : Kept g' s'.heap h' := .of_but hk' x.offL
  obtain ⟨ws, ⟨n, e1⟩, e2⟩ := x.acc
  exact ⟨x.ext.after (tk := s'.toks) hk' x.newL, x.rel.kept kept, ws, ⟨n, hk' _ _ (Ne.symm x.LD) e1⟩, VRs_kept (C := C) kept e2⟩

theorem get?_le {h : Heap} {a : Addr} (ha : h.objs.size ≤ a) : h.get? a = none := by
  cases hq : h.get? a with
  | none => rfl
  | some o => exact absurd (Heap.lt_size hq) (Nat.not_lt.mpr ha)

theorem ne_add {b I : Nat} (h : b < I) (k : Nat) : b ≠ I + k := by exact om312 h
theorem add_ne (I : Nat) {j k : Nat} (h : j ≠ k) : I + j ≠ I + k := by exact om311 h
theorem self_ne (I : Nat) {k : Nat} (h : k ≠ 0) : I ≠ I + k := by exact om310 h
theorem not_between {b I : Nat} (h : b = I ∨ b < I) (k : Nat) (hk : k ≠ 0) : b ≠ I + k := by exact om309 h hk

theorem comp_enter {elt it cond : PE} {m : Nat} {t : Tgt} {e' tg it' : Expr} {ifs : List Expr} {sc : Scope} {pos : Pos} {v : PV} {σ1 : AH} {l : List PV} {out : Res (List PV)} {RR : Value → Env → Result → Shared → Prop}
    (hI : SndE C c d it) (hE : SndE C c d elt) (hT : SndT C c d cond) (hA : AOK C A d) (F : FR C nm vm env ρ g s.heap) (R : C.Rel σ g s.heap)
    (hcI : chkE it nm vm it' = true) (ok : CompOK nm vm tg sc) (hnd : ((compVM vm t tg).map (·.2)).Nodup) (hcT : chkT (compNames nm sc.names) (compVM vm t tg) t tg = true) (hcE : chkE elt (compNames nm sc.names) (compVM vm t tg) e' = true)
    (hcC : ifsOk (isTT cond) (chkE cond (compNames nm sc.names) (compVM vm t tg)) ifs = true)
    (r1 : ev c it 0 ρ σ = .ok v σ1) (hi : items σ1 v = some l) (r2 : compL (ev c cond 0) (ev c elt m) t (kill (tgtSlots t) ρ) l (lockV σ1 v true) = out) (hlen : l.length ≤ 1000000) (hnb : out ≠ .bad)
    (hXX : ∀ k σ2, out = .exc k σ2 → ∀ acc cenv e g' s', cenv.frame = env.frame → CompX C g s (lockV σ2 v (lkV σ1 v)) k e cenv.locals g' s' → RR acc cenv (.error (.ref e)) s')
    (hRR : ∀ vs σ2, out = .ok vs σ2 → ∀ D cenv g' s', cenv.frame = env.frame → CompEnd C g s (lockV σ2 v (lkV σ1 v)) vs D cenv.locals g' s' → RR (.ref D) cenv (.ok .next) s') :
    wpAny (model C.prog C.w) A (eval it' env) (fun x s₁ => wpAny (model C.prog C.w) A (pyIter x) (fun it s₂ => wpAny (model C.prog C.w) A (newList []) (fun acc s₃ =>
      wpAny (model C.prog C.w) A (newFunctionEnv sc env.globals (closOf env sc.names []) [] env.qual none .none (some env)) (fun cenv s₄ =>
        codeAny (model C.prog C.w) A (.compStart (.ListComp e' [⟨tg, it', ifs, 0⟩] sc pos) 0 it acc { cenv with scope := relabel sc env }) (RR acc cenv) s₄) E s₃) E s₂) E s₁) E s := by
  have hTlen := chkT_len hcT
  refine hI nm vm it' env 0 ρ σ g s A _ _ hcI F R hA (PostE.mk r1 fun g1 s1 x e1 R1 v1 => ?_)
  have F1 := F.ext R e1
  refine pyIter_sound hA.hand R1 v1 hi fun o fp P St W st hfp hP hpl => ?_
  refine wpAny_newList ?_ (by simp)
  generalize hI0 : s1.heap.objs.size = I at *
  have hs2 : (s1.heap.push o).objs.size = I + 1 := by rw [Heap.size_push, hI0]
  show wpAny _ _ _ _ _ { s1 with heap := (s1.heap.push o).push { cls := .type "list", data := .seq ([] : List Value).toArray } }
  refine wpAny_newFunctionEnv ok.cell (by intro y hy; simp at hy) (fun h4 hns hsb => ?_) ok.kind
  have hs3 : ((s1.heap.push o).push { cls := .type "list", data := .seq ([] : List Value).toArray }).objs.size = I + 2 := by rw [Heap.size_push, hs2]
  simp only [hs2, hs3] at hns hsb ⊢
  have k1 : ∀ b ob, s1.heap.get? b = some ob → h4.get? b = some ob := fun b ob e => by
    have hlt := Heap.lt_size e
    rw [hI0] at hlt
    rw [hsb.2 b (ne_add hlt 2)]
    exact Heap.get?_push_of_some _ (Heap.get?_push_of_some _ (Heap.get?_push_of_some _ e))
  have hD4 : h4.get? (I + 1) = some { cls := .type "list", data := .seq #[] } := by
    rw [hsb.2 _ (add_ne I (by decide))]
    refine Heap.get?_push_of_some _ ?_
    rw [← hs2]; exact Heap.get?_push_size _ rfl
  have hI4 : ∀ ob, (s1.heap.push o).get? I = some ob → h4.get? I = some ob := fun ob e => by
    rw [hsb.2 _ (self_ne I (by decide))]
    exact Heap.get?_push_of_some _ (Heap.get?_push_of_some _ e)
  have offI : I ∉ g1.μ ∧ ¬ g1.Φ I := R1.fresh (hI0 ▸ get?_size _)
  have offD : I + 1 ∉ g1.μ ∧ ¬ g1.Φ (I + 1) := R1.fresh (get?_le (by exact om308 hI0))
  have offL : I + 2 ∉ g1.μ ∧ ¬ g1.Φ (I + 2) := R1.fresh (get?_le (by exact om307 hI0))
  have kept : Kept g1 s1.heap h4 := .of_all k1
  have R4 : C.Rel σ1 g1 h4 := R1.kept kept
  have RL : C.Rel (lockV σ1 v true) (g1.withLk (lockSet g1 v)) h4 := lock_rel R4 (items_ref hi)
  have F4 : FR C nm vm env ρ (g1.withLk (lockSet g1 v)) h4 := by
    have e : Ext noOwn g1 s1 g1 { s1 with heap := h4 } := Ext.all (tk := s1.toks) k1
    have F4' := F1.ext R1 e
    exact ⟨F4'.kind, F4'.names, F4'.glob, F4'.blt, F4'.inj, let ⟨m, n1, n2⟩ := F4'.ns; ⟨m, n1, fun x i v a1 a2 a3 a4 => let ⟨y, b1, b2⟩ := n2 x i v a1 a2 a3 a4; ⟨y, b1, VR_lk b2⟩⟩,
      fun x i a1 a2 => let ⟨cc, ob, b1, b2, b3⟩ := F4'.cl x i a1 a2; ⟨cc, ob, b1, b2, fun v a3 a4 => let ⟨y, c1, c2⟩ := b3 v a3 a4; ⟨y, c1, VR_lk c2⟩⟩, F4'.offL, F4'.offC, F4'.cliv, F4'.apart, F4'.stk⟩
  have FC := F4.comp (t := t) ok hnd hTlen hns offL
  have fpx : ∀ b ∈ fp, b = I ∨ x = .ref b := hfp
  have xlive : ∀ b, x = .ref b → Fast (g1.withLk (lockSet g1 v)) s1.heap b := by
    rintro b rfl
    have dis : ∀ {a}, g1.Φ a → a ∉ g1.μ := fun hf hm => R1.rel.disj _ hm hf
    cases v1 with
    | tup h0 hl hr => obtain ⟨n, e⟩ := hl; exact ⟨_, e, .inl ⟨dis h0, .inl h0⟩⟩
    | lst h0 hl hr => obtain ⟨n, e⟩ := hl; exact ⟨_, e, .inl ⟨dis h0, .inl h0⟩⟩
    | dct h0 hm hl hr => obtain ⟨ob, _, _, e, _⟩ := hl; exact ⟨_, e, .inl ⟨dis h0, .inl h0⟩⟩
    | rng h0 hl => obtain ⟨_, _, _, _, _, e⟩ := hl; exact ⟨_, e, .inl ⟨dis h0, .inl h0⟩⟩
    | @ref j _ hj =>
      have hm := List.mem_of_getElem? hj
      cases hq : s1.heap.get? b with
      | none => exact absurd hm (R1.fresh hq).1
      | some ob => exact ⟨ob, hq, .inr (.inr ⟨j, rfl, hj⟩)⟩
  have xlt : ∀ b, x = .ref b → b < I := fun b hb => by obtain ⟨ob, e, _⟩ := xlive b hb; rw [← hI0]; exact Heap.lt_size e
  have fpI : ∀ b ∈ fp, b = I ∨ b < I := fun b hb => (fpx b hb).imp id (xlt b)
  have hcl : ∀ y cc, (closOf env sc.names []).lookup y = some cc → cc < I := fun y cc hc => by
    have h1 := closOf_sub _ [] (F1.freeCells ok) (fun _ _ q => (nomatch q)) y cc hc
    refine byC fun hZ => ?_
    obtain ⟨_, ob, e, _⟩ := F1.cliv y cc h1
    refine hZ ?_; clear hZ
    rw [← hI0]; exact Heap.lt_size e
  have hfl : ∀ b ∈ frs C, b < I := fun b hb => by
    obtain ⟨_, _, ob, e, _⟩ := F1.full b hb
    rw [← hI0]; exact Heap.lt_size e
  have F0 : CF C (I + 2) (I + 1) I fp (compEnvC sc (closOf env sc.names []) (I + 2) env) :=
    ⟨rfl, Ne.symm (self_ne I (by decide)), add_ne I (by decide), Ne.symm (self_ne I (by decide)), fun hm => not_between (fpI _ hm) 2 (by decide) rfl, fun hm => not_between (fpI _ hm) 1 (by decide) rfl, fun y cc hc => ⟨Nat.ne_of_lt (hcl y cc hc), ne_add (hcl y cc hc) 1, ne_add (hcl y cc hc) 2⟩, fun b hb => ⟨Nat.ne_of_lt (hfl b hb), ne_add (hfl b hb) 1⟩⟩
  have hob : ∃ ob, (s1.heap.push o).get? I = some ob ∧ dD ob = false := let ⟨ob, _, q, _, _, q'⟩ := hpl 0 _ st; ⟨ob, q, q'⟩
  have st4 : St 0 h4 := W.frame 0 _ _ st fun b hb ob e => by
    rcases fpI b hb with rfl | hlt
    · exact hI4 ob e
    · rw [hsb.2 b (ne_add hlt 2)]; exact Heap.get?_push_of_some _ (Heap.get?_push_of_some _ e)
  have X0 : CS C (I + 2) (I + 1) I fp St (compNames nm sc.names) (compVM vm t tg) (compEnvC sc (closOf env sc.names []) (I + 2) env) (kill (tgtSlots t) ρ) 0 [] (lockV σ1 v true) (g1.withLk (lockSet g1 v)) { s1 with heap := h4, toks := s1.toks } :=
    ⟨RL, FC, st4, ⟨#[], ⟨0, hD4⟩, .nil⟩, offI, offD, let ⟨ob, q, q'⟩ := hob; ⟨ob, hI4 ob q, q'⟩, fun b hb => by
      rcases fpx b hb with rfl | hx
      · obtain ⟨ob, q, q'⟩ := hob; exact ⟨ob, hI4 ob q, .inl ⟨offI.1, .inr q'⟩⟩
      · exact (xlive b hx).but fun ob q2 => k1 b ob q2⟩
  have hoff3 : Off (own3 (I + 2) (I + 1) I) (g1.withLk (lockSet g1 v)) := fun b hb => by
    rcases hb with rfl | rfl | rfl
    · exact offI
    · exact offD
    · exact offL
  have loop := comp_loop (m := m) (sc := sc) (pos := pos) (iter := it') (out := out) (R := RR (.ref (I + 1)) (newEnv sc (I + 2) env.globals (closOf env sc.names []) env.qual none .none (some env) builtinsNs)) hE hT hA F0 W hpl hcE hcC hcT (fun y hy hc => ?_) (fun i v a1 a2 => (kill_get a1 a2).1) RL (fun i z u h1 h2 => VR_lk (VR_kept (C := C) kept (hP i z u h1 h2))) hoff3 hlen hnb ?_ ?_ l.length 0 _ _ _ [] (Nat.zero_le _) rfl X0 (Ext.refl _ _) (Nat.le_refl 0) (by rw [List.drop_zero, r2]; cases out <;> rfl)
  · exact codeAny_compStart_list loop (W.self 0 _ _ _ st4 loop)
  · rw [compNames_lookup] at hc
    refine byC fun hZ => ?_
    obtain ⟨k, k1, k2⟩ := Option.map_eq_some_iff.mp hc
    refine hZ ?_; clear hZ
    have hm := lookup_mem_pair k1
    cases k with
    | cell => exact ok.cell _ hm rfl
    | free => exact (ok.free y hm).1 hy
    | _ => simp at k2
  · intro k σE gn sn e hout En Rn yn Sn nL offLn
    have hnone : ∀ a, own3 (I + 2) (I + 1) I a → s1.heap.get? a = none := fun a ha => get?_le (by rcases ha with rfl | rfl | rfl <;> omega)
    have x1 : Ext noOwn (g1.withLk (lockSet g1 v)) s1 gn sn := Ext.drop (Ext.all (tk := s1.toks) k1) En hnone
    have x3 : Ext noOwn g1 s1 (gn.withLk g1.lk) sn := x1.relock fun b hb => .inl hb
    have hmu : ∀ i, v = .ref i → ∃ a, g1.μ[i]? = some a := by
      rintro i rfl; cases v1 with | ref hj => exact ⟨_, hj⟩
    have hlv : ∀ b, lvs s b → lvs { s1 with heap := h4, toks := s1.toks } b := fun b q => by
      obtain ⟨o, ho⟩ := Option.isSome_iff_exists.mp (e1.live b q)
      exact isSome_of (k1 b o ho)
    exact hXX k σE hout (.ref (I + 1)) (newEnv sc (I + 2) env.globals (closOf env sc.names []) env.qual none .none (some env) builtinsNs) e (gn.withLk g1.lk) sn rfl
      ⟨e1.trans x3, unlock_rel R1 Rn x1.pre x1.lock hmu (items_ref hi), yn.mono hlv, Sn, nL, none_of_live e1.live (hnone _ (.inr (.inr rfl))), offLn, fun q => ne_add (hfl _ q) 2 rfl⟩
  · intro vs σ2 hout gn sn h' tk Rn Fn accn offDn En hk
    have hnone : ∀ a, own3 (I + 2) (I + 1) I a → s1.heap.get? a = none := fun a ha => get?_le (by rcases ha with rfl | rfl | rfl <;> omega)
    have x1 : Ext noOwn (g1.withLk (lockSet g1 v)) s1 gn sn := Ext.drop (Ext.all (tk := s1.toks) k1) En hnone
    have x2 : Ext noOwn (g1.withLk (lockSet g1 v)) s1 gn { sn with heap := h', toks := tk } := x1.after hk (hnone _ (.inl rfl))
    have x3 : Ext noOwn g1 s1 (gn.withLk g1.lk) { sn with heap := h', toks := tk } := x2.relock fun b hb => .inl hb
    have hmu : ∀ i, v = .ref i → ∃ a, g1.μ[i]? = some a := by
      rintro i rfl; cases v1 with | ref hj => exact ⟨_, hj⟩
    refine hRR vs σ2 hout (I + 1) (newEnv sc (I + 2) env.globals (closOf env sc.names []) env.qual none .none (some env) builtinsNs) (gn.withLk g1.lk) _ rfl ⟨e1.trans x3, unlock_rel R1 Rn x2.pre x2.lock hmu (items_ref hi), none_of_live e1.live (hnone _ (.inr (.inl rfl))), offDn, ?_, ?_, none_of_live e1.live (hnone _ (.inr (.inr rfl))), Fn.offL, add_ne I (by decide)⟩
    · obtain ⟨ws, a1, a2⟩ := accn; exact ⟨ws, a1, VRs_lk a2⟩
    · obtain ⟨m', n1, _⟩ := Fn.ns; exact ⟨m', n1⟩
end Mine

set_option autoImplicit false
set_option backward.match.sparseCases true
set_option linter.unusedVariables false
namespace Mine
open PySem PyProof.Rows PySem.SeqAt

variable {C : Fix} {c : Cx} {σ σ' : AH} {g g' : Cfg} {h h' : Heap} {s s' : Shared} {own : Addr → Prop} {A : Around} {d : Nat} {nm : NM} {vm : VM} {env : Env} {ρ : List PV}
  {Q : Value → Shared → Prop} {E : Value → Shared → Prop}

theorem sliceF_chk {a lo : PE} {e : Expr} (hc : chkE (.sliceF a lo) nm vm e = true) : ∃ v l sp pos, e = .Subscript v (.Slice (some l) none none sp) pos ∧ chkE a nm vm v = true ∧ chkE lo nm vm l = true := by
  refine byC fun hZ => ?_
  obtain ⟨v, ix, pos, rfl⟩ := fmSub hc
  obtain ⟨l, u, st, sp, rfl⟩ := fmSlice hc
  refine hZ ?_; clear hZ
  rcases l with _ | l <;> rcases u with _ | u <;> rcases st with _ | st <;> try (exact absurd (show false = true from hc) Bool.false_ne_true)
  obtain ⟨h1, h2⟩ := and2 (show (chkE a nm vm v && chkE lo nm vm l) = true from hc)
  exact ⟨v, l, sp, pos, rfl, h1, h2⟩
theorem sliceFT_chk {a lo hi : PE} {e : Expr} (hc : chkE (.sliceFT a lo hi) nm vm e = true) : ∃ v l u sp pos, e = .Subscript v (.Slice (some l) (some u) none sp) pos ∧ chkE a nm vm v = true ∧ chkE lo nm vm l = true ∧ chkE hi nm vm u = true := by
  refine byC fun hZ => ?_
  obtain ⟨v, ix, pos, rfl⟩ := fmSub hc
  obtain ⟨l, u, st, sp, rfl⟩ := fmSlice hc
  refine hZ ?_; clear hZ
  rcases l with _ | l <;> rcases u with _ | u <;> rcases st with _ | st <;> try (exact absurd (show false = true from hc) Bool.false_ne_true)
  obtain ⟨h12, h3⟩ := and2 (show (chkE a nm vm v && chkE lo nm vm l && chkE hi nm vm u) = true from hc)
  obtain ⟨h1, h2⟩ := and2 h12
  exact ⟨v, l, u, sp, pos, rfl, h1, h2, h3⟩
theorem natOf_vr {v : PV} {x : Value} {i : Nat} (e : natOf v = some i) (hv : C.VR g h v x) : ∃ t, x = .int (i : Int) t := by
  refine byC fun hZ => ?_
  obtain ⟨k, h1, h2⟩ := bind_elim (fun o => o = some i) (fun q => nomatch q) e
  obtain ⟨t, rfl⟩ := int_vr h1 hv
  refine hZ ?_; clear hZ
  split at h2
  · rename_i hk
    cases h2
    exact ⟨t, by rw [Int.toNat_of_nonneg hk.1]⟩
  · cases h2

theorem sndE_sliceF {a lo : PE} (ha : SndE C c d a) (hl : SndE C c d lo) : SndE C c d (.sliceF a lo) := by
  intro nm vm e env m ρ σ g s A Q E hc F R hA hp
  refine byC fun hZ => ?_
  obtain ⟨v, l, sp, pos, rfl, h1, h2⟩ := sliceF_chk hc
  obtain ⟨x, σ1, r1, hp⟩ := hp.bindE
  obtain ⟨y, σ2, r2, hp⟩ := hp.bindE
  refine hZ ?_; clear hZ
  refine Subscript_ (ha nm vm v env 0 ρ σ g s A _ _ h1 F R hA (PostE.mk r1 fun g1 s1 vx e1 R1 v1 => ?_))
  refine wpAny_Slice (show wpAny _ _ (eval l env) _ _ _ from hl nm vm l env 0 ρ σ1 g1 s1 A _ _ h2 (F.ext R e1) R1 hA (PostE.mk r2 fun g2 s2 vy e2 R2 v2 => ?_))
  refine byC fun hZ => ?_
  obtain ⟨i, hi, hp⟩ := (fin_sound (m := m) (E := E) (hp.shift (e1.trans e2))).bind
  obtain ⟨t, rfl⟩ := natOf_vr hi v2
  refine hZ ?_; clear hZ
  refine wpAny_pure (wpAny_pure ?_)
  exact cut_sound R2 (b := 1000000) (o := none) (deref_sound R2 (VR_ext R1 e2 Off.none v1)) (fun n hn => ⟨n, .none, (Nat.min_eq_right hn).symm⟩) hp
theorem sndE_sliceFT {a lo hi : PE} (ha : SndE C c d a) (hl : SndE C c d lo) (hh : SndE C c d hi) : SndE C c d (.sliceFT a lo hi) := by
  intro nm vm e env m ρ σ g s A Q E hc F R hA hp
  refine byC fun hZ => ?_
  obtain ⟨v, l, u, sp, pos, rfl, h1, h2, h3⟩ := sliceFT_chk hc
  obtain ⟨x, σ1, r1, hp⟩ := hp.bindE
  obtain ⟨y, σ2, r2, hp⟩ := hp.bindE
  obtain ⟨z, σ3, r3, hp⟩ := hp.bindE
  refine hZ ?_; clear hZ
  refine Subscript_ (ha nm vm v env 0 ρ σ g s A _ _ h1 F R hA (PostE.mk r1 fun g1 s1 vx e1 R1 v1 => ?_))
  refine wpAny_Slice (show wpAny _ _ (eval l env) _ _ _ from hl nm vm l env 0 ρ σ1 g1 s1 A _ _ h2 (F.ext R e1) R1 hA (PostE.mk r2 fun g2 s2 vy e2 R2 v2 => ?_))
  refine (show wpAny _ _ (eval u env) _ _ _ from hh nm vm u env 0 ρ σ2 g2 s2 A _ _ h3 ((F.ext R e1).ext R1 e2) R2 hA (PostE.mk r3 fun g3 s3 vz e3 R3 v3 => ?_))
  refine byC fun hZ => ?_
  obtain ⟨i, hi, hp⟩ := (fin_sound (m := m) (E := E) (hp.shift ((e1.trans e2).trans e3))).bind
  obtain ⟨j, hj, hp⟩ := hp.bind
  obtain ⟨t, rfl⟩ := natOf_vr hi v2
  obtain ⟨t', rfl⟩ := natOf_vr hj v3
  refine hZ ?_; clear hZ
  refine wpAny_pure ?_
  exact cut_sound R3 (b := j) (o := some (j : Int)) (deref_sound R3 (VR_ext R1 (e2.trans e3) Off.none v1)) (fun n hn => ⟨_, .int j t', rfl⟩) hp

theorem sliceT_chk {a hi : PE} {e : Expr} (hc : chkE (.sliceT a hi) nm vm e = true) : ∃ v u sp pos, e = .Subscript v (.Slice none (some u) none sp) pos ∧ chkE a nm vm v = true ∧ chkE hi nm vm u = true := by
  refine byC fun hZ => ?_
  obtain ⟨v, ix, pos, rfl⟩ := fmSub hc
  obtain ⟨l, u, st, sp, rfl⟩ := fmSlice hc
  refine hZ ?_; clear hZ
  rcases l with _ | l <;> rcases u with _ | u <;> rcases st with _ | st <;> try (exact absurd (show false = true from hc) Bool.false_ne_true)
  obtain ⟨h1, h2⟩ := and2 (show (chkE a nm vm v && chkE hi nm vm u) = true from hc)
  exact ⟨v, u, sp, pos, rfl, h1, h2⟩
theorem sndE_sliceT {a hi : PE} (ha : SndE C c d a) (hl : SndE C c d hi) : SndE C c d (.sliceT a hi) := by
  intro nm vm e env m ρ σ g s A Q E hc F R hA hp
  refine byC fun hZ => ?_
  obtain ⟨v, u, sp, pos, rfl, h1, h2⟩ := sliceT_chk hc
  obtain ⟨x, σ1, r1, hp⟩ := hp.bindE
  obtain ⟨y, σ2, r2, hp⟩ := hp.bindE
  refine hZ ?_; clear hZ
  refine Subscript_ (ha nm vm v env 0 ρ σ g s A _ _ h1 F R hA (PostE.mk r1 fun g1 s1 vx e1 R1 v1 => ?_))
  refine wpAny_Slice (wpAny_pure ?_)
  refine (show wpAny _ _ (eval u env) _ _ _ from hl nm vm u env 0 ρ σ1 g1 s1 A _ _ h2 (F.ext R e1) R1 hA (PostE.mk r2 fun g2 s2 vy e2 R2 v2 => ?_))
  refine byC fun hZ => ?_
  obtain ⟨i, hi, hp⟩ := (fin_sound (m := m) (E := E) (hp.shift (e1.trans e2))).bind
  obtain ⟨t, rfl⟩ := natOf_vr hi v2
  refine hZ ?_; clear hZ
  refine wpAny_pure ?_
  exact cutT_sound R2 (deref_sound R2 (VR_ext R1 e2 Off.none v1)) hp

end Mine

set_option autoImplicit false
set_option backward.match.sparseCases true
set_option linter.unusedVariables false
namespace Mine
open PySem PyProof.Rows PySem.SeqAt

variable {C : Fix} {c : Cx} {σ σ' : AH} {g g' : Cfg} {h h' : Heap} {s s' : Shared} {own : Addr → Prop} {A : Around} {d : Nat} {nm : NM} {vm : VM} {env : Env} {ρ : List PV}
  {Q : Value → Shared → Prop} {E : Value → Shared → Prop}

theorem folded_plain {e : Expr} {x : Value} (h : plainE e = true) : foldedSetIterable e env x = pure x := by
  cases e <;> first | rfl | cases h

theorem comp_ev {elt it cond : PE} {t : Tgt} {m : Nat} (hb : ev c (.comp elt t it cond) m ρ σ ≠ .bad) : ∃ v σ1 l out, ev c it 0 ρ σ = .ok v σ1 ∧ items σ1 v = some l ∧ l.length ≤ 1000000 ∧ compL (ev c cond 0) (ev c elt m.pred) t (kill (tgtSlots t) ρ) l (lockV σ1 v true) = out ∧ out ≠ .bad ∧
    ev c (.comp elt t it cond) m ρ σ = (unlock v (lkV σ1 v) out).bindX fun vs σ2 => box m (.list vs) σ2 := by
  have e0 : ev c (.comp elt t it cond) m ρ σ = (ev c it 0 ρ σ).bind fun v σ1 => match items σ1 v with
    | none => .bad
    | some l => if small l.length then (unlock v (lkV σ1 v) (compL (ev c cond 0) (ev c elt m.pred) t (kill (tgtSlots t) ρ) l (lockV σ1 v true))).bindX fun vs σ2 => box m (.list vs) σ2 else .bad := rfl
  rw [e0] at hb ⊢
  cases r1 : ev c it 0 ρ σ with
  | bad => rw [r1] at hb; exact absurd rfl hb
  | exc => rw [r1] at hb; exact absurd rfl hb
  | ok v σ1 =>
    rw [r1] at hb
    cases hi : items σ1 v with
    | none => exact absurd (show (match items σ1 v with | none => Res.bad | some l => _) = .bad by rw [hi]) hb
    | some l =>
      have hb : (if small l.length then (unlock v (lkV σ1 v) (compL (ev c cond 0) (ev c elt m.pred) t (kill (tgtSlots t) ρ) l (lockV σ1 v true))).bindX fun vs σ2 => box m (.list vs) σ2 else .bad) ≠ .bad := fun q => hb (by show (match items σ1 v with | none => Res.bad | some l => _) = .bad; rw [hi]; exact q)
      by_cases hs : small l.length = true
      · rw [if_pos hs] at hb
        refine ⟨v, σ1, l, _, rfl, hi, by simpa [small] using hs, rfl, fun q => hb (by rw [q]; rfl), ?_⟩
        show (match items σ1 v with | none => Res.bad | some l => _) = _
        rw [hi]
        exact if_pos hs
      · rw [if_neg hs] at hb; exact absurd rfl hb

noncomputable def compPostX (M : Model) (A : Around) (E : Value → Shared → Prop) (use : Option (Value → Sem Unit)) (Q : Value → Shared → Prop) (acc : Value) (cenv : Env) (r : Result) (s' : Shared) : Prop :=
  match r, use with
  | .ok _, none => ∃ m, s'.heap.Ns cenv.locals m ∧ ∀ h', Heap.SameBut cenv.locals s'.heap h' → Q acc { s' with heap := h' }
  | .ok _, some u => wpAny M A (u acc) (fun _ s'' => ∃ m, s''.heap.Ns cenv.locals m ∧ ∀ h', Heap.SameBut cenv.locals s''.heap h' → Q .none { s'' with heap := h' }) E s'
  | .error x, _ => ∃ m, s'.heap.Ns cenv.locals m ∧ ∀ h', Heap.SameBut cenv.locals s'.heap h' → ∀ env' : Env, env'.frame = cenv.frame → wpAny M A (PySem.passOn "comprehension.variables-let-go" x env' : Sem Value) (fun _ _ => False) E { s' with heap := h' }

theorem comp_free {M : Model} {e : Expr} {sc : Scope} {pos : Pos} {mk first : Sem Value} {q : Comprehension} {qs : List Comprehension} {cl : List (Str × Addr)} {use : Option (Value → Sem Unit)} (hcl : clausesOf e = q :: qs) (hs : ∀ x, foldedSetIterable q.iter env x = pure x)
    (hclos : closureFor sc env = pure cl) (hkind : sc.kind = .function) (hnames : ∀ x ∈ sc.names, x.2 = .local → sc.names.lookup x.1 = some .local)
    (hw : wpAny M A first (fun x s₁ => wpAny M A (pyIter x) (fun it s₂ => wpAny M A mk (fun acc s₃ => wpAny M A (newFunctionEnv sc env.globals cl [] env.qual none .none (some env)) (fun cenv s₄ =>
        codeAny M A (.compStart e 0 it acc { cenv with scope := relabel sc env }) (compPostX M A E use Q acc cenv) s₄) E s₃) E s₂) E s₁) E s) :
    wpAny M A (comprehension e sc env pos mk false first use) Q E s := by
  unfold comprehension
  rw [hclos, hcl]
  refine wpAny_bind (wpAny_mono hw (fun x s₁ h₁ => wpAny_bind (wpAny_standAt (wpAny_bind (wpAny_of_eq (hs x) (wpAny_bind (wpAny_holding (wpAny_mono h₁ (fun it s₂ h₂ => ?_) fun _ _ y => y))))))) fun _ _ y => y)
  refine wpAny_standIf (wpAny_bind (wpAny_mono h₂ (fun acc s₃ h₃ => wpAny_bind (wpAny_pure (wpAny_bind (wpAny_mono h₃ (fun cenv s₄ h₄ => ?_) fun _ _ y => y)))) fun _ _ y => y))
  dsimp only
  have kin : ∀ x ∈ sc.names, x.2 = .local → Env.kindOf { cenv with scope := relabel sc env } x.1 = some .local := fun x hx hl => lookup_relabel_local (hnames x hx hl)
  refine wpAny_holding (wpAny_bind (wpAny_attempt (wpAny_holding (wpAny_run (codeAny_mono h₄ fun r s' hr => ?_)))))
  rcases r with x | f
  · have hr : ∃ m, s'.heap.Ns cenv.locals m ∧ ∀ h', Heap.SameBut cenv.locals s'.heap h' → ∀ env' : Env, env'.frame = cenv.frame → wpAny M A (PySem.passOn "comprehension.variables-let-go" x env' : Sem Value) (fun _ _ => False) E { s' with heap := h' } := by cases use <;> exact hr
    obtain ⟨m, hn, hr⟩ := hr
    refine wpAny_bind (wpAny_holding (wpAny_comp_letGo (cenv := { cenv with scope := relabel sc env }) hkind _ s' m (fun y hy hl => kin y (List.mem_filter.mp (List.mem_reverse.mp hy)).1 hl) hn fun h' _ _ hs' => wpAny_mono (hr h' hs' _ rfl) (fun _ _ w => w.elim) fun _ _ y => y))
  · cases use with
    | none =>
      obtain ⟨m, hn, hr⟩ := (hr : ∃ m, s'.heap.Ns cenv.locals m ∧ _)
      exact wpAny_bind (wpAny_holding (wpAny_comp_letGo (cenv := { cenv with scope := relabel sc env }) hkind _ s' m (fun y hy hl => kin y (List.mem_filter.mp (List.mem_reverse.mp hy)).1 hl) hn fun h' _ _ hs' => wpAny_pure (hr h' hs')))
    | some u =>
      refine wpAny_bind (wpAny_rule (wpAny_bind (wpAny_holding (wpAny_mono (show wpAny M A (u acc) _ E s' from hr) (fun _ s2 h5 => ?_) fun _ _ y => y))))
      obtain ⟨m, hn, h5⟩ := h5
      refine wpAny_bind (wpAny_comp_letGo (cenv := { cenv with scope := relabel sc env }) hkind _ s2 m (fun y hy hl => ?_) hn fun h' _ _ hs' => wpAny_pure (h5 h' hs'))
      have hy : y ∈ (sc.names.filter fun x => (x.2 == .local || x.2 == .cell) && x.1 != (".0" : Str)).reverse := (List.mem_append.mp hy).elim List.mem_of_mem_drop List.mem_of_mem_take
      exact kin y (List.mem_filter.mp (List.mem_reverse.mp hy)).1 hl

theorem sndE_comp {elt it cond : PE} {t : Tgt} (hI : SndE C c d it) (hE : SndE C c d elt) (hT : SndT C c d cond) : SndE C c d (.comp elt t it cond) := by
  intro nm vm e env m ρ σ g s A Q E hc F R hA hp
  refine byC fun hZ => ?_
  obtain ⟨e', tg, it', ifs, sc, pos, rfl, c1, ok, c3, c4, c5, c6⟩ := comp_chk hc
  obtain ⟨v, σ1, l, out, r1, hi, hl, r2, hnb, he⟩ := comp_ev (c := c) (ρ := ρ) (σ := σ) (elt := elt) (it := it) (cond := cond) (t := t) (m := m) fun q => by rw [q] at hp; exact hp
  refine hZ ?_; clear hZ
  rw [he] at hp
  rw [eval_ListComp]
  refine comp_free (use := none) rfl (fun x => folded_plain (chk_plain c1)) (closure_eq (F.freeCells ok)) ok.kind ok.names ?_
  refine comp_enter (RR := fun acc L => compPostX (model C.prog C.w) A E none Q acc L) hI hE hT hA F R c1 ok c3 c4 c5 c6 r1 hi r2 hl hnb (fun k σ2 hout acc cenv e g' s' hfr X => ?_) fun vs σ2 hout D L g' s' _ X => ?_
  · subst hout
    obtain ⟨mL, hn⟩ := X.ns
    refine ⟨mL, hn, fun h' hs env' he' => X.thrown ?_ hs fun s2 y => hp s2 e y⟩
    obtain ⟨e0, h0, h1⟩ := F.stk.1
    exact ⟨e0, h0, (he'.trans hfr).trans h1⟩
  · subst hout
    obtain ⟨mL, hn⟩ := X.ns
    refine ⟨mL, hn, fun h' hs => ?_⟩
    obtain ⟨x1, x2, x3⟩ := X.letGo hs
    exact box_sound hp x1 x2 X.newD X.offD.1 X.offD.2 x3

noncomputable def bareP0 : PE → Prop
  | .notE _ | .andE _ | .orE _ | .cmp .. => False
  | _ => True
theorem bare_of {pe : PE} (h : bareP0 pe) : ∀ nm vm e, chkE pe nm vm e = true → bareT e = true := by
  intro nm vm e hc
  cases e <;> first | rfl | skip
  all_goals (cases pe <;> first | exact h.elim | (exact absurd (show false = true from hc) Bool.false_ne_true) | skip)
  all_goals (rename_i op x p a; cases op <;> first | rfl | (exact absurd (show false = true from hc) Bool.false_ne_true))

structure SndP (C : Fix) (c : Cx) (d : Nat) (pe : PE) : Prop where
  e : SndE C c d pe
  t : SndT C c d pe
structure SndPs (C : Fix) (c : Cx) (d : Nat) (pes : PEs) : Prop where
  es : SndEs C c d pes
  an : SndB C c d .And (evAnd c) pes
  or : SndB C c d .Or (evOr c) pes
  hd : ∀ e es, pes = .cons e es → SndE C c d e

theorem bareP {pe : PE} (h : SndE C c d pe) (hb : bareP0 pe) : SndP C c d pe := ⟨h, sndT_bare h (bare_of hb)⟩

noncomputable def PEs.isN : PEs → Bool
  | .nil => true
  | .cons _ _ => false
mutual
theorem sndP (K : C.OK) (X : CxOK C c d) : ∀ pe : PE, SndP C c d pe
  | .const k => bareP (sndE_const k) trivial
  | .loc i => bareP (sndE_loc i) trivial
  | .andE es => ⟨sndE_and (sndPs K X es).an, sndT_and (sndPs K X es).an⟩
  | .orE es => ⟨sndE_or (sndPs K X es).or, sndT_or (sndPs K X es).or⟩
  | .bin op a b => bareP (sndE_bin K (sndP K X a).e (sndP K X b).e) trivial
  | .notE a => ⟨sndE_not (sndP K X a).e, sndT_not (sndP K X a).t⟩
  | .neg a => bareP (sndE_neg (sndP K X a).e) trivial
  | .cmp op a b => ⟨sndE_cmp (sndP K X a).e (sndP K X b).e, sndT_cmp (sndP K X a).e (sndP K X b).e⟩
  | .tup es => bareP (sndE_tup (sndPs K X es).es) trivial
  | .lst es => bareP (sndE_lst (sndPs K X es).es) trivial
  | .edict => bareP sndE_edict trivial
  | .idx a i => bareP (sndE_idx (sndP K X a).e (sndP K X i).e) trivial
  | .sliceF a lo => bareP (sndE_sliceF (sndP K X a).e (sndP K X lo).e) trivial
  | .sliceFT a lo hi => bareP (sndE_sliceFT (sndP K X a).e (sndP K X lo).e (sndP K X hi).e) trivial
  | .sliceT a hi => bareP (sndE_sliceT (sndP K X a).e (sndP K X hi).e) trivial
  | .glob x => bareP (sndE_glob K X x) trivial
  | .comp elt t it cond => bareP (sndE_comp (sndP K X it).e (sndP K X elt).e (sndP K X cond).t) trivial
  | .call f args => bareP (sndE_call K X (sndPs K X args).es) trivial
  | .bi b args => bareP (sndE_bi K X (sndPs K X args).es (sndPs K X args).hd) trivial
  | .meth o m args => bareP (sndE_meth (sndP K X o).e (sndPs K X args).es) trivial
theorem sndPs (K : C.OK) (X : CxOK C c d) : ∀ pes : PEs, SndPs C c d pes
  | .nil => ⟨sndEs_nil, sndAnd_nil, sndOr_nil, fun _ _ q => Bool.noConfusion (show true = false from congrArg PEs.isN q)⟩
  | .cons e es => ⟨sndEs_cons (sndP K X e).e (sndPs K X es).es, sndAnd_cons (sndP K X e).e (sndP K X e).t (sndPs K X es).an, sndOr_cons (sndP K X e).e (sndP K X e).t (sndPs K X es).or,
      fun e' es' q => by cases q; exact (sndP K X e).e⟩
end
end Mine

set_option autoImplicit false
set_option backward.match.sparseCases true
set_option linter.unusedVariables false
namespace Mine
open PySem PyProof.Rows PySem.SeqAt

variable {C : Fix} {c : Cx} {σ σ' : AH} {g g' : Cfg} {h h' : Heap} {s s' : Shared} {own : Addr → Prop} {A : Around} {d : Nat} {nm : NM} {vm : VM} {env : Env} {ρ : List PV}
  {Q : Flow → Shared → Prop} {E : Value → Shared → Prop}

noncomputable def FlwR (C : Fix) (g : Cfg) (h : Heap) : Flw → Flow → Prop
  | .next, f => f = .next
  | .brk, f => f = .brk
  | .cont, f => f = .cont
  | .ret v, f => ∃ x, f = .ret x ∧ C.VR g h v x

noncomputable def PostX (C : Fix) (nm : NM) (vm : VM) (env : Env) (g : Cfg) (s : Shared) (r : Res FE) (Q : Flow → Shared → Prop) (E : Value → Shared → Prop) : Prop := match r with
  | .ok r σ' => ∀ g' s' fl, Ext (ownOf env) g s g' s' → C.Rel σ' g' s'.heap → FR C nm vm env r.2 g' s'.heap → FlwR C g' s'.heap r.1 fl → Q fl s'
  | .exc k σ' => ∀ s' e, Thrown C (ownOf env) g s σ' k e s' → E (.ref e) s'
  | .bad => False

theorem PostX.bindX {α : Type} {r : Res α} {f : α → AH → Res FE} (hp : PostX C nm vm env g s (r.bind f) Q E) : ∃ v σ1, r = .ok v σ1 ∧ PostX C nm vm env g s (f v σ1) Q E := by
  cases r with
  | ok v σ1 => exact ⟨v, σ1, rfl, hp⟩
  | exc => exact hp.elim
  | bad => exact hp.elim
theorem PostX.bindXX {α : Type} {r : Res α} {f : α → AH → Res FE} (hp : PostX C nm vm env g s (r.bindX f) Q E) : (∃ v σ1, r = .ok v σ1 ∧ PostX C nm vm env g s (f v σ1) Q E) ∨ ∃ k σ1, r = .exc k σ1 ∧ ∀ s' e, Thrown C noOwn g s σ1 k e s' → E (.ref e) s' := by
  cases r with
  | ok v σ1 => exact .inl ⟨v, σ1, rfl, hp⟩
  | exc k σ1 => exact .inr ⟨k, σ1, rfl, fun s' e ⟨g', e1, R1, x1, S1⟩ => hp s' e ⟨g', e1.weaken, R1, x1, S1⟩⟩
  | bad => exact hp.elim
theorem PostX.shift {r : Res FE} (e : Ext (ownOf env) g s g' s') (hp : PostX C nm vm env g s r Q E) : PostX C nm vm env g' s' r Q E := by
  cases r with
  | ok v σ1 => exact fun g2 s2 fl e2 R2 F2 f2 => hp g2 s2 fl (e.trans e2) R2 F2 f2
  | exc => exact fun s2 x hx => hp s2 x (hx.shift e)
  | bad => exact hp
theorem PostX.mk {r : Res FE} {f : Flw} {ρ' : List PV} (hr : r = .ok (f, ρ') σ') (h : ∀ g' s' fl, Ext (ownOf env) g s g' s' → C.Rel σ' g' s'.heap → FR C nm vm env ρ' g' s'.heap → FlwR C g' s'.heap f fl → Q fl s') : PostX C nm vm env g s r Q E := by rw [hr]; exact h

theorem FR.off (F : FR C nm vm env ρ g h) : Off (ownOf env) g := fun b hb => by
  rcases hb with rfl | ⟨x, hx⟩
  · exact F.offL
  · exact F.offC x b hx

noncomputable def SndS (C : Fix) (c : Cx) (d : Nat) (ps : PS) : Prop := ∀ nm vm st env ρ σ g s A (Q : Flow → Shared → Prop) (E : Value → Shared → Prop), chkS ps nm vm st = true → FR C nm vm env ρ g s.heap → C.Rel σ g s.heap → AOK C A d → C.fs.head? = some env →
  PostX C nm vm env g s (exec c ps ρ σ) Q E → wpAny (model C.prog C.w) A (PySem.exec st env) Q E s
noncomputable def SndSs (C : Fix) (c : Cx) (d : Nat) (ps : PSs) : Prop := ∀ nm vm st env ρ σ g s A (Q : Flow → Shared → Prop) (E : Value → Shared → Prop), chkSs ps nm vm st = true → FR C nm vm env ρ g s.heap → C.Rel σ g s.heap → AOK C A d → C.fs.head? = some env →
  PostX C nm vm env g s (execs c ps ρ σ) Q E → wpAny (model C.prog C.w) A (PySem.execs st env) Q E s

theorem sndSs_nil : SndSs C c d .nil := by
  intro nm vm st env ρ σ g s A Q E hc F R hA hT hp
  cases st with
  | nil => exact wpAny_execs_nil (hp g s .next (Ext.refl g s) R F rfl)
  | cons => cases hc
theorem sndSs_cons {p : PS} {ps : PSs} (h1 : SndS C c d p) (h2 : SndSs C c d ps) : SndSs C c d (.cons p ps) := by
  intro nm vm st env ρ σ g s A Q E hc F R hA hT hp
  cases st with
  | nil => cases hc
  | cons st sts =>
    obtain ⟨c1, c2⟩ := and2 (show (chkS p nm vm st && chkSs ps nm vm sts) = true from hc)
    rw [execs_c] at hp
    cases r1 : exec c p ρ σ with
    | bad => rw [r1] at hp; exact hp.elim
    | exc k σ1 => rw [r1] at hp; exact wpAny_execs_cons (h1 nm vm st env ρ σ g s A _ _ c1 F R hA hT (by rw [r1]; exact hp))
    | ok r σ1 =>
    obtain ⟨f, ρ1⟩ := r
    rw [r1] at hp
    simp only [Res.bindX] at hp
    refine wpAny_execs_cons (h1 nm vm st env ρ σ g s A _ _ c1 F R hA hT (PostX.mk r1 fun g1 s1 fl e1 R1 F1 hf => ?_))
    cases f with
    | next => cases hf; exact h2 nm vm sts env ρ1 σ1 g1 s1 A _ _ c2 F1 R1 hA hT (hp.shift e1)
    | brk => cases hf; exact hp g1 s1 .brk e1 R1 F1 rfl
    | cont => cases hf; exact hp g1 s1 .cont e1 R1 F1 rfl
    | ret v => obtain ⟨x, rfl, hv⟩ := hf; exact hp g1 s1 _ e1 R1 F1 ⟨x, rfl, hv⟩

theorem sndS_ret {m : Nat} {e : PE} (h : SndE C c d e) : SndS C c d (.ret m e) := by
  intro nm vm st env ρ σ g s A Q E hc F R hA hT hp
  refine byC fun hZ => ?_
  obtain ⟨v, pos, rfl⟩ := fmRet hc
  refine hZ ?_; clear hZ
  rcases hp.bindXX with ⟨x, σ1, r1, hp⟩ | ⟨k, σ1, r1, hp⟩
  rotate_left
  · exact wpAny_Return_some (h nm vm v env m ρ σ g s A _ _ hc F R hA (PostE.ex r1 hp))
  refine wpAny_Return_some (h nm vm v env m ρ σ g s A _ _ hc F R hA (PostE.mk r1 fun g1 s1 y e1 R1 v1 => ?_))
  exact hp g1 s1 _ e1.weaken R1 (F.ext R e1) ⟨y, rfl, v1⟩

theorem swaps_notComp {e : Expr} {tgt : Option Expr} {n : Nat} (h : isComp e = false) : swapsWith e tgt n env = pure false := by
  cases e <;> first | rfl | cases h
theorem interactive_fn (F : FR C nm vm env ρ g h) : interactive env = false := by
  unfold interactive; rw [F.kind]; rfl

theorem sndS_expr {e : PE} (h : SndE C c d e) : SndS C c d (.expr e) := by
  intro nm vm st env ρ σ g s A Q E hc F R hA hT hp
  refine byC fun hZ => ?_
  obtain ⟨v, pos, rfl⟩ := fmExprS hc
  obtain ⟨c1, c2⟩ := and2 (show (!isComp v && chkE e nm vm v) = true from hc)
  obtain ⟨x, σ1, r1, hp⟩ := hp.bindX
  refine hZ ?_; clear hZ
  rw [exec_Expr env v pos (interactive_fn F) (swaps_notComp (by simpa using c1))]
  refine wpAny_bind (wpAny_standAt (wpAny_bind (h nm vm v env 0 ρ σ g s A _ _ c2 F R hA (PostE.mk r1 fun g1 s1 y e1 R1 v1 => ?_))))
  exact wpAny_dropValue (hp g1 s1 .next e1.weaken R1 (F.ext R e1) rfl)

theorem sndS_ite {t : PE} {a b : PSs} (ht : SndT C c d t) (ha : SndSs C c d a) (hb : SndSs C c d b) : SndS C c d (.ite t a b) := by
  intro nm vm st env ρ σ g s A Q E hc F R hA hT hp
  refine byC fun hZ => ?_
  obtain ⟨t', a', b', pos, rfl⟩ := fmIf hc
  obtain ⟨h12, h3⟩ := and2 (show (chkE t nm vm t' && chkSs a nm vm a' && chkSs b nm vm b') = true from hc)
  obtain ⟨h1, h2⟩ := and2 h12
  obtain ⟨x, σ1, r1, hp⟩ := hp.bindX
  refine hZ ?_; clear hZ
  cases hq : truth σ1 x with
  | none => rw [hq] at hp; exact hp.elim
  | some q =>
    rw [hq] at hp
    refine wpAny_If (ht nm vm t' env ρ σ g s A _ _ h1 F R hA (PostT.mk r1 hq fun g1 s1 e1 R1 => ?_))
    cases q with
    | true => exact ha nm vm a' env ρ σ1 g1 s1 A _ _ h2 (F.ext R e1) R1 hA hT (hp.shift e1.weaken)
    | false => exact hb nm vm b' env ρ σ1 g1 s1 A _ _ h3 (F.ext R e1) R1 hA hT (hp.shift e1.weaken)

theorem assign_store (F : FR C nm vm env ρ g s.heap) (R : C.Rel σ g s.heap) {x : Str} {i : Nat} {v : PV} {y : Value} {Q : Unit → Shared → Prop} (hx : vm.lookup x = some i) (ho : isOwn (nm.lookup x) = true) (hv : C.VR g s.heap v y)
    (hq : ∀ s', FR C nm vm env (ρ.set i v) g s'.heap → C.Rel σ g s'.heap → Ext (ownOf env) g s g s' → Q () s') : wpAny (model C.prog C.w) A (storeName env x y) Q E s :=
  store_sound F R hx ho hv (.inl rfl) (fun _ cc hc => .inr ⟨x, hc⟩) hq

theorem exec_Assign_use (x pos' value pos) (hs : swapsWith value (some (.Name x pos')) pos.line env = pure true) : PySem.exec (.Assign [.Name x pos'] value pos) env = (do
    standAt pos
    evalThenUse value env (assign (.Name x pos') env)
    pure .next) := by
  have e : PySem.exec (.Assign [.Name x pos'] value pos) env = (do
      standAt pos
      if ← swapsWith value (some (.Name x pos')) pos.line env then
        evalThenUse value env (assign (.Name x pos') env)
        return .next
      let v ← eval value env
      standAt pos'
      bindName env x v
      pure .next) := rfl
  rw [e, hs]; rfl

theorem box_mk {m : Nat} {f : Frs} {u : PV} {σ1 : AH} {D : Addr} (hb : box m f σ = .ok u σ1) (R : C.Rel σ g h) (hn : D ∉ g.μ) (hf : ¬ g.Φ D) (hs : s.heap = h) (hr : FrsR C g s.heap f D) : ∃ g1, (g1 = g.frz D ∨ g1 = g.trk D) ∧ C.Rel σ1 g1 s.heap ∧ C.VR g1 s.heap u (.ref D) := by
  subst hs
  cases m with
  | zero => cases hb; exact ⟨_, .inl rfl, R.frz hn hr.live, hr.vr (R.notSys hf)⟩
  | succ m =>
    cases hb
    refine ⟨_, .inr rfl, R.trk hn hf (hr.ob fun q => hn (R.rel.lkμ _ q)), .ref ?_⟩
    show (g.μ ++ [D])[σ.length]? = some D
    rw [← R.rel.len]; simp
theorem comp_of {v : Expr} {e : PE} (hcv : isComp v = true) (c3 : chkE e nm vm v = true) : ∃ elt t it cond, e = .comp elt t it cond := by
  have key : ∀ {w}, (∃ x p, v = .Name x p) ∨ v = w → isComp w = false → False := fun h hw => by
    rcases h with ⟨_, _, rfl⟩ | rfl
    · cases hcv
    · rw [hw] at hcv; cases hcv
  cases e with
  | comp elt t it cond => exact ⟨_, _, _, _, rfl⟩
  | const => obtain ⟨_, _, _, h⟩ := fmConst c3; exact (key (.inr h) rfl).elim
  | loc => exact (key (w := v) (.inl (fmName c3)) (by obtain ⟨_, _, rfl⟩ := fmName c3; rfl)).elim
  | glob => exact (key (w := v) (.inl (fmName c3)) (by obtain ⟨_, _, rfl⟩ := fmName c3; rfl)).elim
  | andE => obtain ⟨_, _, _, h⟩ := fmBool c3; exact (key (.inr h) rfl).elim
  | orE => obtain ⟨_, _, _, h⟩ := fmBool c3; exact (key (.inr h) rfl).elim
  | bin => obtain ⟨_, _, _, _, h⟩ := fmBin c3; exact (key (.inr h) rfl).elim
  | notE => obtain ⟨_, _, _, h⟩ := fmUn c3; exact (key (.inr h) rfl).elim
  | neg => obtain ⟨_, _, _, h⟩ := fmUn c3; exact (key (.inr h) rfl).elim
  | cmp => obtain ⟨_, _, _, _, h⟩ := fmCmp c3; exact (key (.inr h) rfl).elim
  | tup => obtain ⟨_, _, _, h⟩ := fmTup c3; exact (key (.inr h) rfl).elim
  | lst => obtain ⟨_, _, h⟩ := fmLst c3; exact (key (.inr h) rfl).elim
  | edict => obtain ⟨_, h⟩ := fmEDict c3; exact (key (.inr h) rfl).elim
  | idx => obtain ⟨_, _, _, h⟩ := fmSub c3; exact (key (.inr h) rfl).elim
  | sliceF => obtain ⟨_, _, _, h⟩ := fmSub c3; exact (key (.inr h) rfl).elim
  | sliceFT => obtain ⟨_, _, _, h⟩ := fmSub c3; exact (key (.inr h) rfl).elim
  | sliceT => obtain ⟨_, _, _, h⟩ := fmSub c3; exact (key (.inr h) rfl).elim
  | call => obtain ⟨_, _, _, h⟩ := fmCall c3; exact (key (.inr h) rfl).elim
  | bi => obtain ⟨_, _, _, h⟩ := fmCall c3; exact (key (.inr h) rfl).elim
  | meth => obtain ⟨_, _, _, h⟩ := fmCall c3; exact (key (.inr h) rfl).elim
theorem sndS_assign {i m : Nat} {e : PE} (h : SndE C c d e) (hsub : ∀ elt t it cond, e = .comp elt t it cond → SndE C c d it ∧ SndE C c d elt ∧ SndT C c d cond) : SndS C c d (.assign i m e) := by
  intro nm vm st env ρ σ g s A Q E hc F R hA hT hp
  refine byC fun hZ => ?_
  obtain ⟨tgts, v, pos, rfl⟩ := fmAssign hc
  refine hZ ?_; clear hZ
  rcases tgts with _ | ⟨tg, _ | ⟨t2, ts⟩⟩
  · exact absurd (show false = true from hc) Bool.false_ne_true
  · refine byC fun hZ => ?_
    obtain ⟨x, p, rfl⟩ := fmName hc
    obtain ⟨c12, c3⟩ := and2 (show (vm.lookup x == some i && isOwn (nm.lookup x) && chkE e nm vm v) = true from hc)
    obtain ⟨c1, c2⟩ := and2 c12
    have c1 : vm.lookup x = some i := by simpa using c1
    refine hZ ?_; clear hZ
    have plain : swapsWith v (some (.Name x p)) pos.line env = pure false → wpAny (model C.prog C.w) A (PySem.exec (.Assign [.Name x p] v pos) env) Q E s := fun hs => by
      rcases hp.bindXX with ⟨u, σ1, r1, hp1⟩ | ⟨k, σ1, r1, hp1⟩
      rotate_left
      · exact wpAny_Assign_Name (h nm vm v env m ρ σ g s A _ _ c3 F R hA (PostE.ex r1 hp1)) hs
      refine wpAny_Assign_Name (h nm vm v env m ρ σ g s A _ _ c3 F R hA (PostE.mk r1 fun g1 s1 y e1 R1 v1 => ?_)) hs
      exact assign_store (F.ext R e1) R1 c1 c2 v1 fun s2 F2 R2 e2 => hp1 g1 s2 .next (e1.weaken.trans e2) R2 F2 rfl
    cases hcv : isComp v with
    | false => exact plain (swaps_notComp hcv)
    | true =>
      refine byC fun hZ => ?_
      obtain ⟨elt, t, it, cond, rfl⟩ := comp_of hcv c3
      obtain ⟨hI, hE, hT⟩ := hsub _ _ _ _ rfl
      obtain ⟨e', tg, it', ifs, sc, pos', rfl, d1, ok, d3, d4, d5, d6⟩ := comp_chk c3
      obtain ⟨bq, hbq⟩ : ∃ b : Bool, swapsWith (.ListComp e' [⟨tg, it', ifs, 0⟩] sc pos') (some (.Name x p)) pos.line env = pure b := ⟨_, rfl⟩
      refine hZ ?_; clear hZ
      cases bq with
      | false => exact plain hbq
      | true =>
        rw [exec_Assign_use x p _ pos hbq]
        refine wpAny_bind (wpAny_standAt (wpAny_bind ?_))
        refine byC fun hZ => ?_
        obtain ⟨w, σ2, l, out, q1, hi, hl, q2, hnb, he⟩ := comp_ev (c := c) (ρ := ρ) (σ := σ) (elt := elt) (it := it) (cond := cond) (t := t) (m := m) fun q => by
          have hp : PostX C nm vm env g s ((ev c (.comp elt t it cond) m ρ σ).bindX fun v σ1 => .ok (.next, ρ.set i v) σ1) Q E := hp
          rw [q] at hp; exact hp
        have hp : PostX C nm vm env g s ((ev c (.comp elt t it cond) m ρ σ).bindX fun v σ1 => .ok (.next, ρ.set i v) σ1) Q E := hp
        refine hZ ?_; clear hZ
        rw [he] at hp
        show wpAny _ _ (comprehension (.ListComp e' [⟨tg, it', ifs, 0⟩] sc pos') sc env (firstIterPos [⟨tg, it', ifs, 0⟩] pos') (newList []) false (eval it' env) (some (assign (.Name x p) env)) >>= fun _ => pure ()) _ _ _
        refine wpAny_bind (comp_free (use := some (assign (.Name x p) env)) rfl (fun x => folded_plain (chk_plain d1)) (closure_eq (F.freeCells ok)) ok.kind ok.names ?_)
        refine comp_enter (RR := fun acc L => compPostX (model C.prog C.w) A E (some (assign (.Name x p) env)) _ acc L) hI hE hT hA F R d1 ok d3 d4 d5 d6 q1 hi q2 hl hnb (fun k σ3 hout acc cenv e g' s' hfr X => ?_) fun vs σ3 hout D cenv g' s' _ X => ?_
        · subst hout
          have hp : ∀ s' e, Thrown C (ownOf env) g s (lockV σ3 w (lkV σ2 w)) k e s' → E (.ref e) s' := hp
          obtain ⟨mL, hn⟩ := X.ns
          refine ⟨mL, hn, fun h' hs env' he' => X.thrown ?_ hs fun s2 ⟨g', e1, R1, x1, S1⟩ => hp s2 e ⟨g', e1.weaken, R1, x1, S1⟩⟩
          obtain ⟨e0, h0, h1⟩ := F.stk.1
          exact ⟨e0, h0, (he'.trans hfr).trans h1⟩
        subst hout
        obtain ⟨L, hcL⟩ : ∃ L, cenv.locals = L := ⟨_, rfl⟩
        show wpAny _ _ (assign (.Name x p) env (.ref D)) (fun _ s'' => ∃ m, s''.heap.Ns cenv.locals m ∧ ∀ h', Heap.SameBut cenv.locals s''.heap h' → _) _ _
        rw [hcL]
        rw [hcL] at X
        obtain ⟨u, σ9, hbx⟩ : ∃ u σ9, box m (.list vs) (lockV σ3 w (lkV σ2 w)) = .ok u σ9 := by cases m <;> exact ⟨_, _, rfl⟩
        have hp1 : PostX C nm vm env g s (.ok (.next, ρ.set i u) σ9) Q E := by
          have hp : PostX C nm vm env g s ((box m (.list vs) (lockV σ3 w (lkV σ2 w))).bindX fun v σ1 => .ok (.next, ρ.set i v) σ1) Q E := hp
          rw [hbx] at hp; exact hp
        refine byC fun hZ => ?_
        obtain ⟨ws, w1, w2⟩ := X.acc
        obtain ⟨g1, hg1, R1, v1⟩ := box_mk (s := s') hbx X.rel X.offD.1 X.offD.2 rfl ⟨ws, w1, w2⟩
        refine hZ ?_; clear hZ
        have e1 : Ext noOwn g s g1 s' := by
          rcases hg1 with rfl | rfl
          · exact X.ext.frz X.newD
          · exact X.ext.trk X.newD
        have offL1 : L ∉ g1.μ ∧ ¬ g1.Φ L := by
          rcases hg1 with rfl | rfl
          · exact ⟨X.offL.1, fun q => q.elim X.offL.2 X.LD⟩
          · exact ⟨fun q => (List.mem_append.mp q).elim X.offL.1 fun q => X.LD (List.mem_singleton.mp q), X.offL.2⟩
        have F1 := F.ext R e1
        obtain ⟨mL, hn⟩ := X.ns
        refine assign_name (assign_store F1 R1 c1 c2 v1 fun s2 F2 R2 e2 => ?_)
        have hLl : ∀ b, ownOf env b → b ≠ L := fun b hb q => by
          subst q
          rcases hb with hb | ⟨z, hz⟩
          · refine byC fun hZ => ?_
            obtain ⟨m', n1, _⟩ := F.ns
            obtain ⟨o, ho⟩ := Heap.Ns.live n1
            refine hZ ?_; clear hZ
            rw [← hb, X.newL] at ho; cases ho
          · refine byC fun hZ => ?_
            obtain ⟨o, ob, ho, _⟩ := F.cliv z b hz
            refine hZ ?_; clear hZ
            rw [X.newL] at ho; cases ho
        refine ⟨mL, ?_, fun h' hs => wpAny_pure (wpAny_pure ?_)⟩
        · obtain ⟨o, es, ep, ho, r⟩ := hn
          exact e2.keepNs ⟨o, es, ep, ho, r⟩ offL1.1 (fun q => hLl L q rfl)
        · have hk' : ∀ b o, b ≠ L → s2.heap.get? b = some o → h'.get? b = some o := fun b o hb e => by rw [hs.2 b hb]; exact e
          have kept : Kept g1 s2.heap h' := .of_but hk' offL1
          have hoff : Off (· = L) g1 := fun b hb => by subst hb; exact offL1
          have e3 : Ext (ownOf env) g s g1 s2 := e1.weaken.trans e2
          have e4 : Ext (ownOf env) g s g1 { s2 with heap := h' } := ⟨e3.pre, e3.sub, e3.newμ, e3.newΦ, e3.lock, fun b o e q1 q2 => let ⟨o', h1, h2⟩ := e3.keep b o e q1 q2; ⟨o', hk' b o' (fun q => by rw [q, X.newL] at e; cases e) h1, h2⟩, fun b o e q1 q2 => hk' b o (fun q => by rw [q, X.newL] at e; cases e) (e3.keepF b o e q1 q2), fun b hb => by
            obtain ⟨o, ho⟩ := Option.isSome_iff_exists.mp (e3.live b hb)
            exact isSome_of (hk' b o (fun q => by rw [q, X.newL] at hb; cases hb) ho), e3.gens, e3.os⟩
          refine hp1 g1 _ .next e4 (R2.kept kept) ?_ rfl
          have hLn : ∀ b, (s.heap.get? b).isSome = true → b ≠ L := fun b hb q => by rw [q, X.newL] at hb; cases hb
          refine byC fun hZ => ?_
          obtain ⟨m', n1, n2⟩ := F2.ns
          refine hZ ?_; clear hZ
          refine ⟨F2.kind, F2.names, F2.glob, F2.blt, F2.inj, ⟨m', ?_, fun x i v a1 a2 a3 a4 => ?_⟩, fun x i a1 a2 => ?_, F2.offL, F2.offC, fun x cc b1 => ?_, F2.apart, F2.stk.but hk' fun b hb _ q => ?_⟩
          · obtain ⟨o, es, ep, ho, r⟩ := n1
            exact ⟨o, es, ep, hk' _ _ (hLl _ (.inl rfl)) ho, r⟩
          · obtain ⟨y, b1, b2⟩ := n2 x i v a1 a2 a3 a4; exact ⟨y, b1, VR_kept (C := C) kept b2⟩
          · refine byC fun hZ => ?_
            obtain ⟨cc, o, b1, ⟨ob, b2, b2'⟩, b3⟩ := F2.cl x i a1 a2
            refine hZ ?_; clear hZ
            exact ⟨cc, o, b1, ⟨ob, hk' _ _ (hLl _ (.inr ⟨x, b1⟩)) b2, b2'⟩, fun v a3 a4 => let ⟨y, c1, c2⟩ := b3 v a3 a4; ⟨y, c1, VR_kept (C := C) kept c2⟩⟩
          · obtain ⟨o, ob, b2, b2'⟩ := F2.cliv x cc b1
            exact ⟨o, ob, hk' _ _ (hLl _ (.inr ⟨x, b1⟩)) b2, b2'⟩
          · obtain ⟨_, _, ob, e, _⟩ := F.full b hb
            rw [q, X.newL] at e; cases e
  · exact absurd (show false = true from hc) Bool.false_ne_true

theorem swapped_none {es : List Expr} {cx} {p : Pos} {v : Expr} (h : isTupE v = false) : swappedStores [.Tuple es cx p] v env = pure none := by
  cases v <;> first | rfl | cases h
theorem ite_n {c : Prop} [Decidable c] {α : Sort _} {x y : α} (h : y = x) : (if c then x else y) = x := by split; rfl; exact h
theorem swapped_any {es : List Expr} {cx} {p : Pos} {v : Expr} (h : (!isTupE v || foldedT v) = true) : swappedStores [.Tuple es cx p] v env = pure none := by
  cases hv : isTupE v with
  | false => exact swapped_none hv
  | true =>
    rw [hv] at h
    cases v with
    | Tuple vs c2 p2 =>
      have h : vs.all (foldedForSure 8) = true := h
      exact ite_n (ite_n (ite_n (if_pos h)))
    | _ => cases hv
theorem swaps_tuple {e : Expr} {es : List Expr} {cx} {p : Pos} {n : Nat} (F : FR C nm vm env ρ g h) : swapsWith e (some (.Tuple es cx p)) n env = pure false := by
  cases e <;> rfl

theorem sndS_assignT {is : List Nat} {e : PE} (h : SndE C c d e) : SndS C c d (.assignT is e) := by
  intro nm vm st env ρ σ g s A Q E hc F R hA hT hp
  refine byC fun hZ => ?_
  obtain ⟨tgts, v, pos, rfl⟩ := fmAssign hc
  refine hZ ?_; clear hZ
  rcases tgts with _ | ⟨tg, _ | ⟨t2, ts⟩⟩
  · exact absurd (show false = true from hc) Bool.false_ne_true
  · refine byC fun hZ => ?_
    obtain ⟨es, cx, p, rfl⟩ := fmTup hc
    obtain ⟨c12, c3⟩ := and2 (show ((!isTupE v || foldedT v) && chkNames nm vm is es && chkE e nm vm v) = true from hc)
    obtain ⟨c1, c2⟩ := and2 c12
    obtain ⟨u, σ1, r1, hp⟩ := hp.bindX
    refine hZ ?_; clear hZ
    have e0 : PySem.exec (.Assign [.Tuple es cx p] v pos) env = (do
        standAt pos
        if ← swapsWith v (some (.Tuple es cx p)) pos.line env then do
          evalThenUse v env fun v => assignAll v ((assignEach [.Tuple es cx p] env).map (·.2))
          pure .next
        else do
          let x ← eval v env
          assignStores env x (← swappedStores [.Tuple es cx p] v env) ((assignEach [.Tuple es cx p] env).map (·.2))) := rfl
    rw [e0, swaps_tuple F, swapped_any c1]
    refine wpAny_bind (wpAny_standAt (wpAny_bind (wpAny_pure ?_)))
    simp only [Bool.false_eq_true, if_false]
    refine wpAny_bind (h nm vm v env 0 ρ σ g s A _ _ c3 F R hA (PostE.mk r1 fun g1 s1 y e1 R1 v1 => wpAny_bind (wpAny_pure ?_)))
    show wpAny _ _ (assign (.Tuple es cx p) env y >>= fun _ => pure Flow.next) _ _ _
    cases hb : bindT (.many is) u ρ with
    | none => rw [hb] at hp; exact hp.elim
    | some ρ1 =>
      rw [hb] at hp
      have F1 := F.ext R e1
      refine wpAny_bind (assign_sound (own := ownOf env) (t := .many is) hA.hand F1.off (.inl rfl) (show chkT nm vm (.many is) (.Tuple es cx p) = true from c2) F1 R1 v1 (fun x _ _ cc hcc => .inr ⟨x, hcc⟩) hb fun s2 F2 R2 e2 => wpAny_pure ?_)
      exact hp g1 s2 .next (e1.weaken.trans e2) R2 F2 rfl
  · exact absurd (show false = true from hc) Bool.false_ne_true

theorem setItem_listX {l : Addr} {items : Array Value} {n : Nat} {k : Int} {t : Tok} {v : Value} {Q : Unit → Shared → Prop} (ho : s.heap.get? l = some { cls := .type "list", dict := none, data := .seq items n, slots := #[] }) (h0 : 0 ≤ k) (hfit : k < 2 ^ 63) (hn : k < items.size)
    (hQ : Q () { s with heap := s.heap.update l (Obj.mapSeq (·.setIfInBounds k.toNat v)) }) : wpAny (model C.prog C.w) A (setItem (.ref l) (.int k t) v) Q E s := by
  have hT : s.TypeIs (.ref l) "list" := ⟨_, ho, rfl⟩
  unfold setItem
  try with_reducible refine wpAny_holding ?_
  first | refine wpAny_bind (wpAny_pure ?_) | skip
  refine wpAny_bind (wpAny_sequenceKey hT (by decide) ?_)
  refine wpAny_bind (wpAny_callSpecial?_slot (name := Str.ofString "__setitem__") hT slot_list_setitem (wpAny_call_entry slot_list_setitem hT entry_list_setitem ?_ (args_list_setitem _ _ _)))
  show wpAny _ _ (Builtin.List.listSubscript? (.int k t) >>= _) _ _ s
  refine wpAny_bind (wpAny_listSubscript_int (fitsIndex_of h0 hfit) ?_)
  clear hfit
  obtain ⟨j, rfl⟩ := Int.eq_ofNat_of_zero_le h0
  have hj : j < items.size := by exact om503 hn
  have hx' : items[j]? = some items[j] := Array.getElem?_eq_getElem hj
  show wpAny _ _ ((seqItemAt l j >>= fun r => pure (r.map (j, ·))) >>= _) _ _ s
  refine wpAny_bind (wpAny_bind (wpAny_seqItemAt ho rfl (wpAny_pure ?_)))
  rw [hx']
  show wpAny _ _ (setSeqItemAt l j v >>= _) _ _ s
  refine wpAny_bind (wpAny_setSeqItemAt ho rfl ?_)
  first
    | exact wpAny_bind (wpAny_pure (wpAny_pure ⟨.none, rfl, wpAny_pure hQ⟩))
    | exact wpAny_pure ⟨.none, rfl, wpAny_pure hQ⟩

theorem setAt_sound {Q : Unit → Shared → Prop} (R : C.Rel σ g s.heap) {a k v : PV} {x y z : Value} (hx : C.VR g s.heap a x) (hk : C.VR g s.heap k y) (hv : C.VR g s.heap v z) {σ4 : AH} (he : setAt σ a k v = some σ4)
    (hq : ∀ g' s', Ext noOwn g s g' s' → C.Rel σ4 g' s'.heap → Q () s') : wpAny (model C.prog C.w) A (setItem x y z) Q E s := by
  rcases two_elim (fun o => o = some σ4) he with ⟨r, i, e1, e2, he⟩ | he
  · rw [refOf_eq e1] at hx
    refine byC fun hZ => ?_
    obtain ⟨p, rfl, hi⟩ := VR_inv hx
    obtain ⟨t, rfl⟩ := str_vr e2 hk
    obtain ⟨l, e, he⟩ := bind_elim (fun o => o = some σ4) (fun q => nomatch q) he
    refine hZ ?_; clear hZ
    split at he
    · rename_i hc
      cases he
      refine byC fun hZ => ?_
      obtain ⟨hl, kvs, h3, h4⟩ := tracked_dict R (openD_eq e) hi
      refine hZ ?_; clear hZ
      have h5 := h4.length
      have hm := small_le hc
      refine wpAny_setItem_pairs (strKind_is C.prog C.w i t) h3 (fun h' hd hsb => ?_) (by rw [← h5, sizeLine_eq]; exact om250 hm)
      have hk' : ∀ b o, b ≠ p → s.heap.get? b = some o → h'.get? b = some o := fun b o hb e => by rw [hsb.2 b hb]; exact e
      have hf := R.rel.disj p (List.mem_of_getElem? hi)
      refine hq g _ (set_ext (List.mem_of_getElem? hi) hl hk' (let ⟨o, es, ep, e, _⟩ := hd; isSome_of e)) (R.set hi hk' ⟨⟨fun q => (nomatch q), fun q => (hl q).elim⟩, _, hd, ?_⟩)
      exact (vrd_but (C := C) hf hk' h4).put (vr_but (C := C) hf hk' hv)
    · cases he
  · rcases two_elim (fun o => o = some σ4) he with ⟨r, i, e1, e2, he⟩ | he
    · rw [refOf_eq e1] at hx
      refine byC fun hZ => ?_
      obtain ⟨p, rfl, hi⟩ := VR_inv hx
      obtain ⟨t, rfl⟩ := int_vr e2 hk
      obtain ⟨l, e, he⟩ := bind_elim (fun o => o = some σ4) (fun q => nomatch q) he
      refine hZ ?_; clear hZ
      split at he
      · rename_i hc
        cases he
        refine byC fun hZ => ?_
        obtain ⟨hl, vs, n, h3, h4⟩ := tracked_list R (openL_eq e) hi
        obtain ⟨c1, c2, c3⟩ := hc
        obtain ⟨j, rfl⟩ := Int.eq_ofNat_of_zero_le c1
        refine hZ ?_; clear hZ
        have h5 := h4.size
        have hm := small_le c3
        have hj : j < l.length := Int.ofNat_lt.mp c2
        refine setItem_listX h3 (Int.natCast_nonneg j) (by omega) (by rw [h5]; exact c2) ?_
        have hf := R.rel.disj p (List.mem_of_getElem? hi)
        have hk' : ∀ b o, b ≠ p → s.heap.get? b = some o → (s.heap.update p (Obj.mapSeq (·.setIfInBounds j z))).get? b = some o := upd_but
        refine hq g _ (set_ext (tk := s.toks) (List.mem_of_getElem? hi) hl hk' (let ⟨n, e⟩ := updX (f := (·.setIfInBounds j z)) h3; isSome_of e)) (R.set hi hk' ⟨⟨fun q => (nomatch q), fun q => (hl q).elim⟩, _, updX h3, ?_⟩)
        have e5 : (vs.setIfInBounds j z).toList = vs.toList.set j z := Array.toList_setIfInBounds ..
        show C.VRs g _ (l.set j v) (vs.setIfInBounds j z).toList
        rw [e5]
        exact (vrs_but (C := C) hf hk' h4).setAt j (vr_but (C := C) hf hk' hv)
      · cases he
    · cases he

theorem swaps_sub {e o i : Expr} {p : Pos} {n : Nat} : swapsWith e (some (.Subscript o i p)) n env = pure false := by
  cases e <;> rfl

theorem sndS_setitem {o i v : PE} {m : Nat} (ho : SndE C c d o) (hi : SndE C c d i) (hv : SndE C c d v) : SndS C c d (.setitem o i m v) := by
  intro nm vm st env ρ σ g s A Q E hc F R hA hT hp
  refine byC fun hZ => ?_
  obtain ⟨tgts, w, pos, rfl⟩ := fmAssign hc
  refine hZ ?_; clear hZ
  rcases tgts with _ | ⟨tg, _ | ⟨t2, ts⟩⟩
  · exact absurd (show false = true from hc) Bool.false_ne_true
  · refine byC fun hZ => ?_
    obtain ⟨o', i', p, rfl⟩ := fmSub hc
    obtain ⟨c12, c3⟩ := and2 (show (chkE o nm vm o' && chkE i nm vm i' && chkE v nm vm w) = true from hc)
    obtain ⟨c1, c2⟩ := and2 c12
    refine hZ ?_; clear hZ
    rcases hp.bindXX with ⟨x, σ1, r1, hp⟩ | ⟨k, σ1, r1, hp⟩
    rotate_left
    · exact wpAny_Assign_Subscript (hv nm vm w env m ρ σ g s A _ _ c3 F R hA (PostE.ex r1 hp)) swaps_sub
    refine byC fun hZ => ?_
    obtain ⟨a, σ2, r2, hp⟩ := hp.bindX
    obtain ⟨k, σ3, r3, hp⟩ := hp.bindX
    refine hZ ?_; clear hZ
    refine wpAny_Assign_Subscript (hv nm vm w env m ρ σ g s A _ _ c3 F R hA (PostE.mk r1 fun g1 s1 vx e1 R1 v1 => ?_)) swaps_sub
    refine ho nm vm o' env 0 ρ σ1 g1 s1 A _ _ c1 (F.ext R e1) R1 hA (PostE.mk r2 fun g2 s2 va e2 R2 v2 => ?_)
    refine hi nm vm i' env 0 ρ σ2 g2 s2 A _ _ c2 ((F.ext R e1).ext R1 e2) R2 hA (PostE.mk r3 fun g3 s3 vk e3 R3 v3 => ?_)
    cases hs : setAt σ3 a k x with
    | none => rw [hs] at hp; exact hp.elim
    | some σ4 =>
      rw [hs] at hp
      refine setAt_sound R3 (VR_ext R2 e3 Off.none v2) v3 (VR_ext R1 (e2.trans e3) Off.none v1) hs fun g4 s4 e4 R4 => ?_
      have e := ((e1.trans e2).trans e3).trans e4
      exact hp g4 s4 .next e.weaken R4 (F.ext R e) rfl
  · exact absurd (show false = true from hc) Bool.false_ne_true
end Mine

set_option autoImplicit false
set_option backward.match.sparseCases true
set_option linter.unusedVariables false
namespace Mine
open PySem PyProof.Rows PySem.SeqAt

variable {C : Fix} {c : Cx} {σ σ' : AH} {g g' : Cfg} {h h' : Heap} {s s' : Shared} {own : Addr → Prop} {A : Around} {d : Nat} {nm : NM} {vm : VM} {env : Env} {ρ : List PV}
  {Q : Flow → Shared → Prop} {E : Value → Shared → Prop}

theorem FR.kill (F : FR C nm vm env ρ g h) (ks : List Nat) : FR C nm vm env (Mine.kill ks ρ) g h := F.sub fun i v h1 h2 => (kill_get h1 h2).2

structure LS (C : Fix) (I : Addr) (fp : List Addr) (St : Nat → Heap → Prop) (nm : NM) (vm : VM) (env : Env) (ρ : List PV) (i : Nat) (σ : AH) (g : Cfg) (s : Shared) : Prop where
  rel : C.Rel σ g s.heap
  fr : FR C nm vm env ρ g s.heap
  st : St i s.heap
  offI : I ∉ g.μ ∧ ¬ g.Φ I
  liveI : ∃ o, s.heap.get? I = some o ∧ dD o = false
  keep : ∀ b ∈ fp, ¬ ownOf env b ∧ Fast g s.heap b
  sI : ∀ b ∈ frs C, b ≠ I

variable {I : Addr} {fp : List Addr} {St : Nat → Heap → Prop} {i n : Nat} {P : Nat → Value → Prop}

theorem LS.body (x : LS C I fp St nm vm env ρ i σ g s) (W : Walks C.prog C.w A I fp [I] n P St) (hI : I ∈ fp) {ρ' : List PV} (e : Ext (ownOf env) g s g' s') (R' : C.Rel σ' g' s'.heap) (F' : FR C nm vm env ρ' g' s'.heap) : LS C I fp St nm vm env ρ' i σ' g' s' where
  rel := R'
  fr := F'
  st := W.frame _ _ _ x.st fun b hb o ho => (e.fast (x.keep b hb).1 (x.keep b hb).2).2 o ho
  offI := by obtain ⟨o, ho, _⟩ := x.liveI; exact ⟨e.notμ ho x.offI.1, e.notΦ ho x.offI.2⟩
  liveI := by obtain ⟨o, ho, hd⟩ := x.liveI; exact ⟨o, e.keepN ho x.offI.1 (x.keep I hI).1 hd, hd⟩
  keep := fun b hb => ⟨(x.keep b hb).1, (e.fast (x.keep b hb).1 (x.keep b hb).2).1⟩
  sI := x.sI

theorem LS.next (hI : I ∈ fp) (x : LS C I fp St nm vm env ρ i σ g s) {h' : Heap} {tk j : Nat} (hk : ∀ b o, b ∉ [I] → s.heap.get? b = some o → h'.get? b = some o) (hst : St j h') (hI' : ∃ o, h'.get? I = some o ∧ dD o = false) :
    LS C I fp St nm vm env ρ j σ g { s with heap := h', toks := tk } ∧ Ext (· = I) g s g { s with heap := h', toks := tk } := by
  have hk' : ∀ b o, b ≠ I → s.heap.get? b = some o → h'.get? b = some o := fun b o hb e => hk b o (by simpa using hb) e
  have e : Ext (· = I) g s g { s with heap := h', toks := tk } := Ext.heap (fun b o e _ hb => hk' b o hb e) fun b hb => by
    by_cases hbI : b = I
    · subst hbI; obtain ⟨o, ho, _⟩ := hI'; exact isSome_of ho
    · obtain ⟨o, ho⟩ := Option.isSome_iff_exists.mp hb; exact isSome_of (hk' b o hbI ho)
  have hoff : Off (· = I) g := fun b hb => by subst hb; exact x.offI
  have kept : Kept g s.heap h' := .of_but hk' x.offI
  have hno := (x.keep I hI).1
  refine ⟨⟨x.rel.kept kept, x.fr.ext' x.rel e hoff (fun q => hno (.inl q.symm)) (fun y cc hc q => hno (.inr ⟨y, q ▸ hc⟩)) (fun b hb _ => x.sI b hb), hst, x.offI, hI', fun b hb => ⟨(x.keep b hb).1, ?_⟩, x.sI⟩, e⟩
  by_cases hbI : b = I
  · subst hbI; obtain ⟨o, ho, hd⟩ := hI'; exact ⟨o, ho, .inl ⟨x.offI.1, .inr hd⟩⟩
  · exact (x.keep b hb).2.but fun o ho => hk' b o hbI ho

noncomputable def ownI (env : Env) (I : Addr) : Addr → Prop := fun b => ownOf env b ∨ b = I

theorem forL_cons {body : List PV → AH → Res FE} {t : Tgt} {ks : List Nat} {x : PV} {xs : List PV} {rr : Res FE} (h : forL body t ks (x :: xs) ρ σ = rr) (hb : rr ≠ .bad) : ∃ ρ1, bindT t x (kill ks ρ) = some ρ1 ∧ ((∃ k σ1, body ρ1 σ = .exc k σ1 ∧ rr = .exc k σ1) ∨ ∃ r1 σ1, body ρ1 σ = .ok r1 σ1 ∧
    (match r1.1 with
      | .next => forL body t ks xs r1.2 σ1 = rr
      | .cont => forL body t ks xs r1.2 σ1 = rr
      | .brk => .ok (.next, kill ks r1.2) σ1 = rr
      | .ret v => .ok (.ret v, r1.2) σ1 = rr)) := by
  rw [forL_c] at h
  cases hq : bindT t x (kill ks ρ) with
  | none => rw [hq] at h; exact absurd h.symm hb
  | some ρ1 =>
    rw [hq] at h
    simp only at h
    refine ⟨ρ1, rfl, ?_⟩
    cases hr : body ρ1 σ with
    | exc k σ1 => rw [hr] at h; exact .inl ⟨k, σ1, rfl, h.symm⟩
    | bad => rw [hr] at h; exact absurd h.symm hb
    | ok r1 σ1 =>
      rw [hr] at h
      refine .inr ⟨r1, σ1, rfl, ?_⟩
      simp only [Res.bindX] at h
      obtain ⟨f, ρ2⟩ := r1
      cases f with
      | next => exact h
      | cont => exact h
      | brk => exact h
      | ret v => exact h

theorem for_loop {body : PSs} {t : Tgt} {ks : List Nat} {tg : Expr} {sts : List Stmt} {l : List PV} {gs : Cfg} {ss : Shared} {σs : AH} {rr : Res FE} {R : Result → Shared → Prop}
    (hB : SndSs C c d body) (hA : AOK C A d) (W : Walks C.prog C.w A I fp [I] l.length P St) (hpl : ∀ i h, St i h → PlainIter h I) (hI : I ∈ fp)
    (hT : C.fs.head? = some env) (hbad : rr ≠ .bad) (hcB : chkSs body nm vm sts = true) (hcT : chkT nm vm t tg = true)
    (Rs : C.Rel σs gs ss.heap) (hP : ∀ i z u, P i z → l[i]? = some u → C.VR gs ss.heap u z) (hoff : Off (ownI env I) gs)
    (hX : ∀ k σE, rr = .exc k σE → ∀ gn sn e, Ext (ownI env I) gs ss gn sn → C.Rel σE gn sn.heap → XH C (lvs ss) gn k e sn.heap → StkC C gn sn.heap → R (.error (.ref e)) sn)
    (hR : ∀ rE σE, rr = .ok rE σE → ∀ gn sn h' tk fl, C.Rel σE gn h' → FR C nm vm env rE.2 gn h' → FlwR C gn h' rE.1 fl → Ext (ownI env I) gs ss gn sn → (∀ b o, b ≠ I → sn.heap.get? b = some o → h'.get? b = some o) → R (.ok fl) { sn with heap := h', toks := tk }) :
    ∀ (k i : Nat) (gi : Cfg) (si : Shared) (σi : AH) (ρi : List PV), i ≤ l.length → k = l.length - i → LS C I fp St nm vm env ρi i σi gi si → Ext (ownI env I) gs ss gi si → forL (execs c body) t ks (l.drop i) ρi σi = rr →
      codeAny (model C.prog C.w) A (.forLoop tg (.ref I) sts [] env) R si := by
  intro k i gi si σi ρi hi hk X0 E0 hrun
  refine codeAny_forLoop_any (fun k s' => ∃ i gi σi ρi, i ≤ l.length ∧ k = l.length - i ∧ LS C I fp St nm vm env ρi i σi gi s' ∧ Ext (ownI env I) gs ss gi s' ∧ forL (execs c body) t ks (l.drop i) ρi σi = rr) ?_ k ⟨i, gi, σi, ρi, hi, hk, X0, E0, hrun⟩
  clear hrun E0 X0 hk hi
  rintro k s' ⟨i, gi, σi, ρi, hi, rfl, X, E0, hrun⟩
  have hno := (X.keep I hI).1
  by_cases hin : i = l.length
  · subst hin
    rw [List.drop_length, forL_0] at hrun
    refine W.done s' _ _ X.st fun h' tk hk => ?_
    have hk' : ∀ b o, b ≠ I → s'.heap.get? b = some o → h'.get? b = some o := fun b o hb e => hk b o (by simpa using hb) e
    have kept : Kept gi s'.heap h' := .of_but hk' X.offI
    have F0 := X.fr.kill ks
    have hfr : FR C nm vm env (kill ks ρi) gi h' := by
      refine byC fun hZ => ?_
      obtain ⟨m', n1, n2⟩ := F0.ns
      refine hZ ?_; clear hZ
      refine ⟨F0.kind, F0.names, F0.glob, F0.blt, F0.inj, ⟨m', ?_, fun x i v a1 a2 a3 a4 => ?_⟩, fun x i a1 a2 => ?_, F0.offL, F0.offC, fun x cc b1 => ?_, F0.apart, F0.stk.but hk' fun b hb _ => X.sI b hb⟩
      · obtain ⟨o, es, ep, ho, r⟩ := n1
        exact ⟨o, es, ep, hk' _ _ (fun q => hno (.inl q.symm)) ho, r⟩
      · obtain ⟨y, b1, b2⟩ := n2 x i v a1 a2 a3 a4; exact ⟨y, b1, VR_kept (C := C) kept b2⟩
      · refine byC fun hZ => ?_
        obtain ⟨cc, o, b1, ⟨ob, b2, b2'⟩, b3⟩ := F0.cl x i a1 a2
        refine hZ ?_; clear hZ
        exact ⟨cc, o, b1, ⟨ob, hk' _ _ (fun q => hno (.inr ⟨x, q ▸ b1⟩)) b2, b2'⟩, fun v a3 a4 => let ⟨y, c1, c2⟩ := b3 v a3 a4; ⟨y, c1, VR_kept (C := C) kept c2⟩⟩
      · obtain ⟨o, ob, b2, b2'⟩ := F0.cliv x cc b1
        exact ⟨o, ob, hk' _ _ (fun q => hno (.inr ⟨x, q ▸ b1⟩)) b2, b2'⟩
    exact wpAny_execs_nil (hR _ _ hrun.symm gi s' h' tk .next (X.rel.kept kept) hfr rfl E0 hk')
  · have hlt : i < l.length := Nat.lt_of_le_of_ne hi hin
    have hdrop : l.drop i = l[i] :: l.drop (i + 1) := List.drop_eq_getElem_cons hlt
    rw [hdrop] at hrun
    refine byC fun hZ => ?_
    obtain ⟨ρ1, hb, hrr⟩ := forL_cons hrun hbad
    refine hZ ?_; clear hZ
    refine W.item i s' _ _ hlt X.st fun z h' tk hz hst hk => ?_
    refine byC fun hZ => ?_
    obtain ⟨ob, nI, q1, q2, q3, q4⟩ := hpl (i + 1) h' hst
    obtain ⟨X1, e1⟩ := X.next hI (tk := tk) hk hst ⟨ob, q1, q4⟩
    refine hZ ?_; clear hZ
    refine owned_go (.inl ⟨ob, nI, q1, q2, q3, q4⟩) (chkT_list hcT) ?_
    have E1 := E0.trans (e1.mono fun a ha => .inr ha)
    have hv : C.VR gi h' l[i] z := VR_ext Rs E1 hoff (hP i z _ hz (by simp [hlt]))
    have F1 := X1.fr.kill ks
    refine assign_sound (own := ownOf env) hA.hand F1.off (.inl rfl) hcT F1 X1.rel hv (fun x _ _ cc hcc => .inr ⟨x, hcc⟩) hb fun s2 F2 R2 e2 => ?_
    have X2 := X1.body W hI e2 R2 F2
    have E2 := E1.trans (e2.mono fun a ha => .inl ha)
    rcases hrr with ⟨k, σ1, hr1, hr2⟩ | ⟨⟨f1, ρ2⟩, σ1, hr1, hr2⟩
    · refine hB nm vm sts env ρ1 σi gi s2 A _ _ hcB F2 R2 hA hT (by
        rw [hr1]
        rintro s3 x ⟨g3, e3, R3, y3, S3⟩
        have E3 := E2.trans (e3.mono fun a ha => .inl ha)
        have y4 : XS C (lvs ss) g3 k x s3.heap := y3.mono (fun b q => E2.live b q) rfl rfl
        exact note_thrown hA.fs hA.fk hT E3 R3 S3 y4 fun h4 a1 a2 a3 a4 => hX k σ1 hr2 g3 _ x a1 a2 a3 a4)
    refine hB nm vm sts env ρ1 σi gi s2 A _ _ hcB F2 R2 hA hT (PostX.mk hr1 fun g3 s3 fl e3 R3 F3 hf => ?_)
    have X3 := X2.body W hI e3 R3 F3
    have E3 := E2.trans (e3.mono fun a ha => .inl ha)
    have same : ∀ (fl : Flow), (∀ b o, b ≠ I → s3.heap.get? b = some o → s3.heap.get? b = some o) := fun _ b o _ e => e
    cases f1 with
    | next => cases hf; exact ⟨l.length - (i + 1), by exact om304 hlt, i + 1, g3, σ1, ρ2, by exact om32 hlt, rfl, X3, E3, hr2⟩
    | cont => cases hf; exact ⟨l.length - (i + 1), by exact om304 hlt, i + 1, g3, σ1, ρ2, by exact om32 hlt, rfl, X3, E3, hr2⟩
    | brk =>
      cases hf
      exact hR _ _ hr2.symm g3 s3 s3.heap s3.toks .next R3 (F3.kill ks) rfl E3 (same .next)
    | ret v =>
      obtain ⟨x, rfl, hv⟩ := hf
      exact hR _ _ hr2.symm g3 s3 s3.heap s3.toks (.ret x) R3 F3 ⟨x, rfl, hv⟩ E3 (same .next)

theorem FR.lk {L : Addr → Prop} (F : FR C nm vm env ρ g h) : FR C nm vm env ρ (g.withLk L) h :=
  ⟨F.kind, F.names, F.glob, F.blt, F.inj, let ⟨m, n1, n2⟩ := F.ns; ⟨m, n1, fun x i v a1 a2 a3 a4 => let ⟨y, b1, b2⟩ := n2 x i v a1 a2 a3 a4; ⟨y, b1, VR_lk b2⟩⟩,
    fun x i a1 a2 => let ⟨cc, ob, b1, b2, b3⟩ := F.cl x i a1 a2; ⟨cc, ob, b1, b2, fun v a3 a4 => let ⟨y, c1, c2⟩ := b3 v a3 a4; ⟨y, c1, VR_lk c2⟩⟩, F.offL, F.offC, F.cliv, F.apart, F.stk⟩
theorem FlwR.lk {L : Addr → Prop} {f : Flw} {fl : Flow} (x : FlwR C g h f fl) : FlwR C (g.withLk L) h f fl := by
  cases f with
  | ret v => obtain ⟨y, h1, h2⟩ := x; exact ⟨y, h1, VR_lk h2⟩
  | _ => exact x

theorem Ext.dropTo {own2 : Addr → Prop} (x : Ext own g s g' s') {g2 : Cfg} {s2 : Shared} (y : Ext own2 g' s' g2 s2) (hn : ∀ a, own2 a → own a ∨ s.heap.get? a = none) : Ext own g s g2 s2 :=
  let z : Ext (fun a => own a ∨ own2 a) g s g2 s2 := (x.mono fun a ha => .inl ha).trans (y.mono fun a ha => .inr ha)
  have hno : ∀ b o, s.heap.get? b = some o → ¬ own b → ¬ (own b ∨ own2 b) := fun b o e ho q => q.elim ho fun q => (hn b q).elim ho fun q => by rw [q] at e; cases e
  { z with keep := fun b o e hb ho => z.keep b o e hb (hno b o e ho), keepF := fun b o e hb ho => z.keepF b o e hb (hno b o e ho) }
theorem Ext.afterTo (x : Ext own g s g' s') {tk : Nat} (hk : ∀ b o, b ≠ I → s'.heap.get? b = some o → h'.get? b = some o) (hI : s.heap.get? I = none) : Ext own g s g' { s' with heap := h', toks := tk } :=
  ⟨x.pre, x.sub, x.newμ, x.newΦ, x.lock, fun b o e q1 q2 => let ⟨o', h1, h2⟩ := x.keep b o e q1 q2; ⟨o', hk b o' (fun q => by rw [q, hI] at e; cases e) h1, h2⟩, fun b o e q1 q2 => hk b o (fun q => by rw [q, hI] at e; cases e) (x.keepF b o e q1 q2), fun b hb => by
    obtain ⟨o, ho⟩ := Option.isSome_iff_exists.mp (x.live b hb)
    exact isSome_of (hk b o (fun q => by rw [q, hI] at hb; cases hb) ho), x.gens, x.os⟩

theorem isSome_push {h : Heap} {b : Addr} {o : Obj} (x : (h.get? b).isSome = true) : ((h.push o).get? b).isSome = true := by
  obtain ⟨o', e⟩ := Option.isSome_iff_exists.mp x
  rw [Heap.get?_push_of_some _ e]; rfl
theorem sndS_for {t : Tgt} {it : PE} {body : PSs} {ks : List Nat} (hIt : SndE C c d it) (hB : SndSs C c d body) : SndS C c d (.forS t it body ks) := by
  intro nm vm st env ρ σ g s A Q E hc F R hA hT hp
  refine byC fun hZ => ?_
  obtain ⟨tg, it', sts, pos, rfl⟩ := fmFor hc
  obtain ⟨c12, c3⟩ := and2 (show (chkT nm vm t tg && chkE it nm vm it' && chkSs body nm vm sts) = true from hc)
  obtain ⟨c1, c2⟩ := and2 c12
  obtain ⟨v, σ1, r1, hp⟩ := hp.bindX
  refine hZ ?_; clear hZ
  cases hi : items σ1 v with
  | none => rw [hi] at hp; exact hp.elim
  | some l =>
    rw [hi] at hp
    simp only at hp
    generalize hr : forL (execs c body) t ks l ρ (lockV σ1 v true) = rr at hp
    have hbad : rr ≠ .bad := by rintro rfl; exact hp
    · refine wpAny_For (hIt nm vm it' env 0 ρ σ g s A _ _ c2 F R hA (PostE.mk r1 fun g1 s1 x e1 R1 v1 => ?_)) (fun x => folded_plain (chk_plain c2))
      have F1 := F.ext R e1
      refine pyIter_sound hA.hand R1 v1 hi fun o fp P St W st hfp hP hpl => ?_
      generalize hI0 : s1.heap.objs.size = I at *
      have k1 : ∀ b ob, s1.heap.get? b = some ob → (s1.heap.push o).get? b = some ob := fun b ob e => Heap.get?_push_of_some _ e
      have hnone : s1.heap.get? I = none := hI0 ▸ get?_size _
      have offI : I ∉ g1.μ ∧ ¬ g1.Φ I := R1.fresh hnone
      have kept : Kept g1 s1.heap (s1.heap.push o) := .of_all k1
      have R2 : C.Rel σ1 g1 (s1.heap.push o) := R1.kept kept
      have RL : C.Rel (lockV σ1 v true) (g1.withLk (lockSet g1 v)) (s1.heap.push o) := lock_rel R2 (items_ref hi)
      have eP : Ext noOwn g1 s1 g1 { s1 with heap := s1.heap.push o } := Ext.all (tk := s1.toks) k1
      have F2 : FR C nm vm env ρ (g1.withLk (lockSet g1 v)) (s1.heap.push o) := (F1.ext R1 eP).lk
      have ownNe : ∀ b, ownOf env b → b ≠ I := fun b hb q => by
        subst q
        rcases hb with hb | ⟨z, hz⟩
        · refine byC fun hZ => ?_
          obtain ⟨m', n1, _⟩ := F1.ns
          obtain ⟨o, ho⟩ := Heap.Ns.live n1
          refine hZ ?_; clear hZ
          rw [← hb, hnone] at ho; cases ho
        · refine byC fun hZ => ?_
          obtain ⟨o, ob, ho, _⟩ := F1.cliv z b hz
          refine hZ ?_; clear hZ
          rw [hnone] at ho; cases ho
      have xlive : ∀ b, x = .ref b → ¬ ownOf env b ∧ Fast (g1.withLk (lockSet g1 v)) s1.heap b := by
        rintro b rfl
        have dis : ∀ {a}, g1.Φ a → a ∉ g1.μ := fun hf hm => R1.rel.disj _ hm hf
        cases v1 with
        | tup h0 hl hr => obtain ⟨n, e⟩ := hl; exact ⟨fun q => (F1.off b q).2 h0, _, e, .inl ⟨dis h0, .inl h0⟩⟩
        | lst h0 hl hr => obtain ⟨n, e⟩ := hl; exact ⟨fun q => (F1.off b q).2 h0, _, e, .inl ⟨dis h0, .inl h0⟩⟩
        | dct h0 hm hl hr => obtain ⟨ob, _, _, e, _⟩ := hl; exact ⟨fun q => (F1.off b q).2 h0, _, e, .inl ⟨dis h0, .inl h0⟩⟩
        | rng h0 hl => obtain ⟨_, _, _, _, _, e⟩ := hl; exact ⟨fun q => (F1.off b q).2 h0, _, e, .inl ⟨dis h0, .inl h0⟩⟩
        | @ref j _ hj =>
          have hm := List.mem_of_getElem? hj
          refine ⟨fun q => (F1.off b q).1 hm, ?_⟩
          cases hq : s1.heap.get? b with
          | none => exact absurd hm (R1.fresh hq).1
          | some ob => exact ⟨ob, hq, .inr (.inr ⟨j, rfl, hj⟩)⟩
      refine byC fun hZ => ?_
      obtain ⟨obI, _, hobI, _, _, hdI⟩ := hpl 0 _ st
      refine hZ ?_; clear hZ
      have hIfp : I ∈ fp := W.sub I (List.mem_singleton.mpr rfl)
      have X0 : LS C I fp St nm vm env ρ 0 (lockV σ1 v true) (g1.withLk (lockSet g1 v)) { s1 with heap := s1.heap.push o } :=
        ⟨RL, F2, st, offI, ⟨obI, hobI, hdI⟩, fun b hb => by
          rcases hfp b hb with rfl | hx
          · exact ⟨fun q => ownNe b q rfl, obI, hobI, .inl ⟨offI.1, .inr hdI⟩⟩
          · exact ⟨(xlive b hx).1, (xlive b hx).2.but fun ob q2 => k1 b ob q2⟩, fun b hb q => by
          obtain ⟨_, _, ob, e, _⟩ := F1.full b hb
          rw [q, hnone] at e; cases e⟩
      have hoff3 : Off (ownI env I) (g1.withLk (lockSet g1 v)) := fun b hb => by
        rcases hb with hb | rfl
        · exact F1.off b hb
        · exact offI
      have hmu : ∀ i, v = .ref i → ∃ a, g1.μ[i]? = some a := by
        rintro i rfl; cases v1 with | ref hj => exact ⟨_, hj⟩
      refine for_loop hB hA W hpl hIfp hT hbad c3 c1 RL (fun i z u h1 h2 => VR_lk (VR_kept (C := C) kept (hP i z u h1 h2))) hoff3 ?_ ?_ l.length 0 _ _ _ ρ (Nat.zero_le _) rfl X0 (Ext.refl _ _) hr
      · intro k σE hrr gn sn e En Rn yn Sn
        subst hrr
        have x1 : Ext (ownOf env) (g1.withLk (lockSet g1 v)) s1 gn sn := Ext.dropTo (Ext.all (tk := s1.toks) k1) En fun a ha => ha.imp id fun q => by rw [q]; exact hnone
        have x3 : Ext (ownOf env) g1 s1 (gn.withLk g1.lk) sn := x1.relock fun b hb => .inl hb
        have Ru := unlock_rel R1 Rn x1.pre x1.lock hmu (items_ref hi)
        have y3 : XH C (lvs s) (gn.withLk g1.lk) k e sn.heap := by
          obtain ⟨I', base, a0, env', l', L', h1, h2, h3, h4, h5⟩ := yn
          exact ⟨I', base, a0, env', l', L', h1, h2, h3, h4, h5.mono (fun b q => isSome_push (e1.live b q)) (fun b q => .inl q) fun b q => .inr q⟩
        exact came_back hT (e1.weaken.trans x3) Ru Sn y3 fun h' a1 a2 a3 a4 => hp _ e ⟨_, a1, a2, .inr (.inr a3), a4⟩
      intro rE σE hrr gn sn h' tk fl Rn Fn hf En hk
      subst hrr
      have x1 : Ext (ownOf env) (g1.withLk (lockSet g1 v)) s1 gn sn := Ext.dropTo (Ext.all (tk := s1.toks) k1) En fun a ha => ha.imp id fun q => by rw [q]; exact hnone
      have x2 : Ext (ownOf env) (g1.withLk (lockSet g1 v)) s1 gn { sn with heap := h', toks := tk } := x1.afterTo hk hnone
      have x3 : Ext (ownOf env) g1 s1 (gn.withLk g1.lk) { sn with heap := h', toks := tk } := x2.relock fun b hb => .inl hb
      exact hp (gn.withLk g1.lk) _ fl (e1.weaken.trans x3) (unlock_rel R1 Rn x2.pre x2.lock hmu (items_ref hi)) Fn.lk hf.lk

theorem while_loop {t : PE} {body : PSs} {ks : List Nat} {tt : Expr} {sts : List Stmt} {gs : Cfg} {ss : Shared} {rE : FE} {σE : AH} {R : Result → Shared → Prop} (hTt : SndT C c d t) (hB : SndSs C c d body) (hA : AOK C A d) (hT : C.fs.head? = some env)
    (hcT : chkE t nm vm tt = true) (hcB : chkSs body nm vm sts = true)
    (hR : ∀ gn sn fl, C.Rel σE gn sn.heap → FR C nm vm env rE.2 gn sn.heap → FlwR C gn sn.heap rE.1 fl → Ext (ownOf env) gs ss gn sn → R (.ok fl) sn) :
    ∀ (n : Nat) (gi : Cfg) (si : Shared) (σi : AH) (ρi : List PV), C.Rel σi gi si.heap → FR C nm vm env ρi gi si.heap → Ext (ownOf env) gs ss gi si → whileN (ev c t 0) (execs c body) ks n ρi σi = .ok rE σE →
      codeAny (model C.prog C.w) A (.whileLoop tt sts [] env) R si := by
  intro n gi si σi ρi R0 F0 E0 hrun
  refine codeAny_whileLoop (fun n s' => ∃ gi σi ρi, C.Rel σi gi s'.heap ∧ FR C nm vm env ρi gi s'.heap ∧ Ext (ownOf env) gs ss gi s' ∧ whileN (ev c t 0) (execs c body) ks n ρi σi = .ok rE σE) ?_ n ⟨gi, σi, ρi, R0, F0, E0, hrun⟩
  clear hrun E0 F0 R0
  rintro n s' ⟨gi, σi, ρi, R0, F0, E0, hrun⟩
  cases n with
  | zero => cases hrun
  | succ n =>
    rw [whileN_c] at hrun
    have Fk := F0.kill ks
    cases ht : ev c t 0 (kill ks ρi) σi with
    | exc => rw [ht] at hrun; cases hrun
    | bad => rw [ht] at hrun; cases hrun
    | ok b σ1 =>
      rw [ht] at hrun
      simp only [Res.bind] at hrun
      cases hb : truth σ1 b with
      | none => rw [hb] at hrun; cases hrun
      | some q =>
        rw [hb] at hrun
        refine hTt nm vm tt env (kill ks ρi) σi gi s' A _ _ hcT Fk R0 hA (PostT.mk ht hb fun g1 s1 e1 R1 => ?_)
        have F1 := Fk.ext R0 e1
        have E1 := E0.trans e1.weaken
        cases q with
        | false =>
          obtain ⟨rfl, rfl⟩ := ok_inj hrun
          exact wpAny_execs_nil (hR g1 s1 .next R1 F1 rfl E1)
        | true =>
          simp only [if_true] at hrun ⊢
          cases hr : execs c body (kill ks ρi) σ1 with
          | exc => rw [hr] at hrun; cases hrun
          | bad => rw [hr] at hrun; cases hrun
          | ok r σ2 =>
            rw [hr] at hrun
            obtain ⟨f, ρ2⟩ := r
            refine hB nm vm sts env (kill ks ρi) σ1 g1 s1 A _ _ hcB F1 R1 hA hT (PostX.mk hr fun g2 s2 fl e2 R2 F2 hf => ?_)
            have E2 := E1.trans e2
            cases f with
            | next => cases hf; exact ⟨n, Nat.lt_succ_self _, g2, σ2, ρ2, R2, F2, E2, hrun⟩
            | cont => cases hf; exact ⟨n, Nat.lt_succ_self _, g2, σ2, ρ2, R2, F2, E2, hrun⟩
            | brk =>
              cases hf
              obtain ⟨rfl, rfl⟩ := ok_inj hrun
              exact hR g2 s2 .next R2 (F2.kill ks) rfl E2
            | ret v =>
              obtain ⟨x, rfl, hv⟩ := hf
              obtain ⟨rfl, rfl⟩ := ok_inj hrun
              exact hR g2 s2 (.ret x) R2 F2 ⟨x, rfl, hv⟩ E2

theorem whileN_noX {test : List PV → AH → Res PV} {body : List PV → AH → Res FE} {ks : List Nat} (k : Str) (σE : AH) : ∀ (n : Nat) (ρ : List PV) (σ : AH), whileN test body ks n ρ σ ≠ .exc k σE
  | 0, ρ, σ => by intro q; cases q
  | n + 1, ρ, σ => by
    rw [whileN_c]
    cases test (kill ks ρ) σ with
    | exc => intro q; cases q
    | bad => intro q; cases q
    | ok b σ1 =>
      simp only [Res.bind]
      cases truth σ1 b with
      | none => intro q; cases q
      | some x =>
        cases x with
        | false => intro q; cases q
        | true =>
          simp only
          cases body (kill ks ρ) σ1 with
          | exc => intro q; cases q
          | bad => intro q; cases q
          | ok r σ2 =>
            obtain ⟨f, ρ1⟩ := r
            cases f with
            | next => exact whileN_noX k σE n _ _
            | cont => exact whileN_noX k σE n _ _
            | brk => intro q; cases q
            | ret v => intro q; cases q
theorem whileW_noX {test : List PV → AH → Res PV} {body : List PV → AH → Res FE} {ks : List Nat} {ρ : List PV} {σ : AH} (k : Str) (σE : AH) : whileW test body ks ρ σ ≠ .exc k σE := by
  intro q
  obtain ⟨n, hn⟩ := whileW_spec (test := test) (body := body) (ks := ks) (ρ := ρ) (σ := σ) (by rw [q]; intro z; cases z)
  exact whileN_noX k σE n ρ σ (hn.trans q)
theorem sndS_while {t : PE} {body : PSs} {ks : List Nat} (hTt : SndT C c d t) (hB : SndSs C c d body) : SndS C c d (.whileS t body ks) := by
  intro nm vm st env ρ σ g s A Q E hc F R hA hT hp
  refine byC fun hZ => ?_
  obtain ⟨tt, sts, pos, rfl⟩ := fmWhile hc
  obtain ⟨c1, c2⟩ := and2 (show (chkE t nm vm tt && chkSs body nm vm sts) = true from hc)
  refine hZ ?_; clear hZ
  have hp : PostX C nm vm env g s (whileW (ev c t 0) (execs c body) ks ρ σ) Q E := hp
  cases hr : whileW (ev c t 0) (execs c body) ks ρ σ with
  | exc k σE => exact absurd hr (whileW_noX k σE)
  | bad => rw [hr] at hp; exact hp.elim
  | ok rE σE =>
    rw [hr] at hp
    obtain ⟨n, hn⟩ := whileW_spec (test := ev c t 0) (body := execs c body) (ks := ks) (ρ := ρ) (σ := σ) (by rw [hr]; intro q; cases q)
    rw [hr] at hn
    refine wpAny_While (while_loop hTt hB hA hT c1 c2 ?_ n g s σ ρ R F (Ext.refl g s) hn)
    intro gn sn fl R1 F1 hf e1
    exact hp gn sn fl e1 R1 F1 hf

end Mine

set_option autoImplicit false
set_option backward.match.sparseCases true
set_option linter.unusedVariables false
namespace Mine
open PySem PyProof.Rows PySem.SeqAt

variable {C : Fix} {c : Cx} {σ σ' : AH} {g g' : Cfg} {h h' : Heap} {s s' : Shared} {own : Addr → Prop} {A : Around} {d : Nat} {nm : NM} {vm : VM} {env : Env} {ρ : List PV}
  {Q : Flow → Shared → Prop} {E : Value → Shared → Prop}

theorem call_any (K : C.OK) (X : CxOK C c d) {f : Str} {args : PEs} {e : Expr} {vs : List PV} {σ1 : AH} {Q : Value → Shared → Prop} (h : SndEs C c d args) (hc : chkE (.call f args) nm vm e = true) (F : FR C nm vm env ρ g s.heap) (R : C.Rel σ g s.heap) (hA : AOK C A d)
    (r1 : evs c args 0 ρ σ = .ok vs σ1) (hnb : c.cal f vs σ1 ≠ .bad) (hp : ∀ g1 s1, Ext noOwn g s g1 s1 → C.Rel σ1 g1 s1.heap → PostC C g1 s1 (c.cal f vs σ1) Q E) : wpAny (model C.prog C.w) A (eval e env) Q E s := by
  refine byC fun hZ => ?_
  obtain ⟨p, as, pos, rfl, h2, h3, h0, h4⟩ := call_chk hc
  obtain ⟨a, o, fd, z1, z2, z3⟩ := X.fnv f vs σ1 h0 hnb
  refine hZ ?_; clear hZ
  rw [eval_Call_Name]
  refine wpAny_bind (Calls.Name_function_global F.kind (isGlob_kind F h2) (Calls.loadGlobal_global (globNs K R F) z1 ?_) (plainName_debug h3))
  refine Calls.callWith_function (o := o) (fd := fd) (evalArgs_any h4 (h nm vm as env 0 ρ σ g s A pos _ _ h4 F R hA (PostL.mk r1 fun g1 s1 xs e1 R1 v1 => ⟨⟨R1.rel.base a o z2, z3⟩, ?_⟩)))
  exact X.cal f a vs xs σ1 g1 s1 A Q E h0 z1 hA R1 v1 (F.ext R e1).full (hp g1 s1 e1 R1)

theorem sndS_raise (K : C.OK) (X : CxOK C c d) {k x : Str} : SndS C c d (.raise k x) := by
  intro nm vm st env ρ σ g s A Q E hc F R hA hT hp
  refine byC fun hZ => ?_
  obtain ⟨v, pos, rfl⟩ := fmRaise hc
  obtain ⟨fe, as, cpos, rfl⟩ := fmCall hc
  obtain ⟨y, np, rfl⟩ := fmName hc
  obtain ⟨a, rfl⟩ := fm1 hc
  obtain ⟨c123, c4⟩ := and2 (show (y == k && isGlob (nm.lookup y) && plainName y && chkE (.const (.str x)) nm vm a) = true from hc)
  obtain ⟨c12, c3⟩ := and2 c123
  obtain ⟨c1, c2⟩ := and2 c12
  refine hZ ?_; clear hZ
  have c1 : y = k := by simpa using c1
  subst c1
  have hp : PostX C nm vm env g s (bif c.isa y y && c.isa y "!" then .exc y σ else .bad) Q E := hp
  cases hi : (c.isa y y && c.isa y "!") with
  | false => rw [hi] at hp; exact hp.elim
  | true =>
    rw [hi] at hp
    have hp : ∀ s' e, Thrown C (ownOf env) g s σ y e s' → E (.ref e) s' := hp
    refine byC fun hZ => ?_
    obtain ⟨hi, hi2⟩ := Bool.and_eq_true_iff.mp hi
    obtain ⟨I, hI⟩ := X.exk y hi
    obtain ⟨hm, bm, N, nm', q, bs, hdct, sn, sub, ab, col, dd, k0, k1, k2, k3, k5, mN, hC, hN, hni, T⟩ := X.exc y I hI hi2
    refine hZ ?_; clear hZ
    have e1 : starEach [a] env = [(false, eval a env)] := by rw [starEach_plain (chk_plain c4)]; rfl
    refine wpAny_Raise_call_subT (C := I) (nm := nm') (q := q) (N := N) (bs := bs) (bm := bm) (hdct := hdct) (sn := sn) (sub := sub) (ab := ab) (col := col) (dd := dd) (k0 := k0) (k1 := k1) (k2 := k2) (k3 := k3) (k5 := k5) PySem.F.excBase_ValueError (mN := mN) (T.hasType PySem.F.excBase_ValueError.hasBase) hA.hand (by rw [e1]; rfl) hni ?_
    refine Calls.Name_function_global F.kind (isGlob_kind F c2) (Calls.loadGlobal_global (globNs K R F) hm ⟨rfl, ?_⟩) (plainName_debug c3)
    rw [e1]
    refine Calls.evalArgs_plain (Calls.spliced_cons (sndE_const (C := C) (c := c) (d := d) (.str x) nm vm a env 0 ρ σ g s A _ _ c4 F R hA ?_))
    refine PostE.mk (v := .str x) (σ' := σ) rfl fun g1 s1 z z1 R1 v1 => Calls.spliced_nil ?_
    have hb := R1.rel.base
    refine ⟨rfl, by rw [sizeLine_eq]; exact om250 (a := 1) (by decide), hb _ _ hC, hN.keeps hb, T.keeps hb, fun h2 e hmk => ?_⟩
    have F1 := F.ext R z1
    have z2 : Ext noOwn g1 s1 g1 { s1 with heap := h2 } := Ext.all (tk := s1.toks) hmk.keeps
    refine hp _ e ⟨g1, (z1.trans z2).weaken, R1.kept (.of_all hmk.keeps), .inr (.inl ⟨I, s1.heap, _, hI, hmk, F1.full, fun b q => ?_⟩), (F1.ext R1 z2).full⟩
    rcases q with q | q | q
    · cases hq : s1.heap.get? b with
      | none => exact absurd q (R1.fresh hq).1
      | some o => rfl
    · exact R1.rel.live b q
    · exact z1.live b q
end Mine

set_option autoImplicit false
set_option backward.match.sparseCases true
set_option linter.unusedVariables false
namespace Mine
open PySem PyProof.Rows PySem.SeqAt

variable {C : Fix} {c : Cx} {σ σ' : AH} {g g' : Cfg} {h h' : Heap} {s s' : Shared} {own : Addr → Prop} {A : Around} {d : Nat} {nm : NM} {vm : VM} {env : Env} {ρ : List PV}
  {E : Value → Shared → Prop} {n y kx : Str} {e I : Addr} {bo : Option Bool}

structure HF (C : Fix) (nm : NM) (vm : VM) (env : Env) (n y : Str) (bo : Option Bool) (e I : Addr) (g : Cfg) (h : Heap) : Prop where
  fr : FR C nm vm env [] g h
  nx : ∃ m, h.Ns env.locals m ∧ m n = some (.ref e) ∧ ∀ q, bo = some q → m y = some (.bool q)
  ex : ∃ o, h.get? e = some o ∧ o.cls = .ref I ∧ dD o = false
  eo : e ∉ g.μ
theorem HF.ext (H : HF C nm vm env n y bo e I g s.heap) (R : C.Rel σ g s.heap) (x : Ext noOwn g s g' s') : HF C nm vm env n y bo e I g' s'.heap where
  fr := H.fr.ext R x
  nx := let ⟨m, h1, h2⟩ := H.nx; ⟨m, x.keepNs h1 H.fr.offL.1 (fun q => q), h2⟩
  ex := let ⟨o, h1, h2, h3⟩ := H.ex; ⟨o, x.keepN h1 H.eo (fun q => q) h3, h2, h3⟩
  eo := let ⟨o, h1, _⟩ := H.ex; x.notμ h1 H.eo

theorem isT_elim {isa : Str → Str → Bool} {e k : Str} {b : Bool} (h : isT isa e k = some b) : (isa k k = true ∨ k = "ValueError") ∧ isa e k = b := by
  unfold isT at h
  cases hq : (isa k k || k == "ValueError") with
  | false => rw [hq] at h; cases h
  | true =>
    rw [hq] at h
    refine ⟨?_, Option.some.inj h⟩
    rcases Bool.or_eq_true_iff.mp hq with q | q
    · exact .inl q
    · exact .inr (by simpa using q)

theorem h_name {Q : Value → Shared → Prop} {p : Pos} (H : HF C nm vm env n y bo e I g s.heap) (hl : nm.lookup n = some .local) (hn : plainName n = true) (h : Q (.ref e) s) : wpAny (model C.prog C.w) A (eval (.Name n p) env) Q E s := by
  refine byC fun hZ => ?_
  obtain ⟨m, h1, h2, _⟩ := H.nx
  refine hZ ?_; clear hZ
  have hkind : env.kindOf n = some .local := by rw [← hl, ← H.fr.names]; rfl
  exact wpAny_Name (wpAny_loadName_local H.fr.kind hkind h1 h2 h) (plainName_debug hn)
theorem h_cls (K : C.OK) (X : CxOK C c d) {Q : Value → Shared → Prop} {k : Str} {v : Value} {p : Pos} (F : FR C nm vm env ρ g s.heap) (R : C.Rel σ g s.heap) (h2 : isGlob (nm.lookup k) = true) (h3 : plainName k = true) (hv : v = .type "ValueError" ∧ k = "ValueError" ∨ C.mg k = some v) (h : Q v s) :
    wpAny (model C.prog C.w) A (eval (.Name k p) env) Q E s := by
  rcases hv with ⟨rfl, rfl⟩ | hv
  · exact name_bi K X F R h2 h3 (by decide) (by rw [K.builtins _ (by decide)]; decide +kernel) h
  · exact Calls.Name_function_global F.kind (isGlob_kind F h2) (Calls.loadGlobal_global (globNs K R F) hv h) (plainName_debug h3)

theorem isi_chk {k : Str} {x : Expr} (hc : chkIsi k nm n x = true) : ∃ p0 p1 p2 pos, x = .Call (.Name "isinstance" p0) [.Name n p1, .Name k p2] [] pos ∧ isGlob (nm.lookup ("isinstance" : Str)) = true ∧ isGlob (nm.lookup k) = true ∧ plainName k = true := by
  refine byC fun hZ => ?_
  obtain ⟨fe, as, pos, rfl⟩ := fmCall hc
  obtain ⟨y, p0, rfl⟩ := fmName hc
  obtain ⟨a, b, rfl⟩ := fm2 hc
  obtain ⟨y1, p1, rfl⟩ := fmName hc
  obtain ⟨y2, p2, rfl⟩ := fmName hc
  obtain ⟨a5, c6⟩ := and2 (show (y == "isinstance" && isGlob (nm.lookup y) && y1 == n && y2 == k && isGlob (nm.lookup y2) && plainName y2) = true from hc)
  obtain ⟨a4, c5⟩ := and2 a5
  obtain ⟨a3, c4⟩ := and2 a4
  obtain ⟨a2, c3⟩ := and2 a3
  obtain ⟨c1, c2⟩ := and2 a2
  refine hZ ?_; clear hZ
  have d1 : y = "isinstance" := by simpa using c1
  have d3 : y1 = n := by simpa using c3
  have d4 : y2 = k := by simpa using c4
  subst d1 d3 d4
  exact ⟨p0, p1, p2, pos, rfl, c2, c5, c6⟩

theorem h_isi (K : C.OK) (X : CxOK C c d) {Q : Value → Shared → Prop} {k : Str} {x : Expr} {b : Bool} (hc : chkIsi k nm n x = true) (H : HF C nm vm env n y bo e I g s.heap) (R : C.Rel σ g s.heap) (hl : nm.lookup n = some .local) (hn : plainName n = true) (hI : C.exc kx = some I)
    (hb : isT c.isa kx k = some b) (hq : ∀ tk, Q (.bool b) { s with toks := tk }) : wpAny (model C.prog C.w) A (eval x env) Q E s := by
  refine byC fun hZ => ?_
  obtain ⟨p0, p1, p2, pos, rfl, c1, c2, c3⟩ := isi_chk hc
  obtain ⟨hk, rfl⟩ := isT_elim hb
  obtain ⟨v, hv, hi, _⟩ := X.isa kx I hI k (hk.imp (X.exk k) id)
  obtain ⟨o, o1, o2, _⟩ := H.ex
  refine hZ ?_; clear hZ
  rw [eval_Call_Name]
  refine wpAny_bind (name_bi K X H.fr R c1 (by decide) (by decide) (v := .builtin "isinstance") (by rw [K.builtins _ (by decide)]; decide +kernel) ?_)
  have e1 : backTo pos (starEach [Expr.Name n p1, .Name k p2] env) = [(false, eval (.Name n p1) env), (false, eval (.Name k p2) env)] := by rw [starEach_plain rfl, starEach_plain rfl]; rfl
  rw [e1]
  refine Calls.callWith_builtin rfl (Calls.evalArgs_plain (Calls.spliced_cons (h_name H hl hn (Calls.spliced_cons (h_cls K X H.fr R c2 c3 hv (Calls.spliced_nil ?_))))))
  exact hi R.rel.base o1 o2 hq

theorem h_not {Q : Value → Shared → Prop} {x : Expr} {pos : Pos} {b : Bool} (h : ∀ Q' : Value → Shared → Prop, (∀ tk, Q' (.bool b) { s with toks := tk }) → wpAny (model C.prog C.w) A (eval x env) Q' E s) (hq : ∀ tk, Q (.bool (!b)) { s with toks := tk }) : wpAny (model C.prog C.w) A (eval (.UnaryOp .Not x pos) env) Q E s := by
  refine wpAny_UnaryOp (h _ fun tk => ?_)
  unfold unaryOp
  refine wpAny_holding ?_
  show wpAny _ _ (truthy (Value.bool b) >>= fun b => pure (Value.bool (!b))) _ _ _
  exact wpAny_bind (wpAny_truthy_bool (wpAny_pure (hq tk)))
theorem h_y {Q : Value → Shared → Prop} {p : Pos} {b : Bool} (H : HF C nm vm env n y (some b) e I g s.heap) (hy : nm.lookup y = some .local) (hm : plainName y = true) (h : Q (.bool b) s) : wpAny (model C.prog C.w) A (eval (.Name y p) env) Q E s := by
  refine byC fun hZ => ?_
  obtain ⟨m, h1, _, h2⟩ := H.nx
  refine hZ ?_; clear hZ
  have hkind : env.kindOf y = some .local := by rw [← hy, ← H.fr.names]; rfl
  exact wpAny_Name (wpAny_loadName_local H.fr.kind hkind h1 (h2 b rfl) h) (plainName_debug hm)
structure HN (nm : NM) (n y : Str) : Prop where
  l : nm.lookup n = some .local
  p : plainName n = true
  ly : nm.lookup y = some .local
  py : plainName y = true
  ne : y ≠ n
theorem sndHT (K : C.OK) (X : CxOK C c d) (N : HN nm n y) (hI : C.exc kx = some I) {Q : Value → Shared → Prop} {t : HT} {x : Expr} {b : Bool} (hc : chkHT t nm n y x = true) (H : HF C nm vm env n y bo e I g s.heap) (R : C.Rel σ g s.heap)
    (hb : hevT c.isa kx bo t = some b) (hq : ∀ tk, Q (.bool b) { s with toks := tk }) : wpAny (model C.prog C.w) A (eval x env) Q E s := by
  cases t with
  | isI k => exact h_isi K X hc H R N.l N.p hI hb hq
  | notI k =>
    refine byC fun hZ => ?_
    obtain ⟨op, z, pos, rfl⟩ := fmUn hc
    refine hZ ?_; clear hZ
    cases op <;> try (exact absurd (show false = true from hc) Bool.false_ne_true)
    have hc' : chkIsi k nm n z = true := hc
    obtain ⟨b', h1, rfl⟩ := Option.map_eq_some_iff.mp (show (isT c.isa kx k).map (!·) = some b from hb)
    exact h_not (fun Q' h => h_isi K X hc' H R N.l N.p hI h1 h) hq
  | notV =>
    refine byC fun hZ => ?_
    obtain ⟨op, z, pos, rfl⟩ := fmUn hc
    obtain ⟨z', p, rfl⟩ := fmName hc
    refine hZ ?_; clear hZ
    cases op <;> try (exact absurd (show false = true from hc) Bool.false_ne_true)
    have hz : z' = y := by simpa using (show (z' == y) = true from hc)
    subst hz
    obtain ⟨b', rfl, rfl⟩ := Option.map_eq_some_iff.mp (show bo.map (!·) = some b from hb)
    exact h_not (fun Q' h => h_y H N.ly N.py (h s.toks)) hq
theorem stop_eq {op : BoolOp} {o : Bool} (ho : (op = .And ∧ o = false) ∨ (op = .Or ∧ o = true)) {b : Bool} {v : Value} {k : Sem Value} {Q : Value → Shared → Prop} (h1 : b = o → Q v s) (h2 : b ≠ o → wpAny (model C.prog C.w) A k Q E s) :
    wpAny (model C.prog C.w) A (match op, b with
      | .And, false | .Or, true => pure v
      | _, _ => k) Q E s := by
  rcases ho with ⟨rfl, rfl⟩ | ⟨rfl, rfl⟩ <;> cases b
  · exact wpAny_pure (h1 rfl)
  · exact h2 (fun q => nomatch q)
  · exact h2 (fun q => nomatch q)
  · exact wpAny_pure (h1 rfl)
theorem sndHTs (K : C.OK) (X : CxOK C c d) (N : HN nm n y) (hI : C.exc kx = some I) {Q : Value → Shared → Prop} {pos : Pos} {op : BoolOp} {o : Bool} (ho : (op = .And ∧ o = false) ∨ (op = .Or ∧ o = true)) : ∀ (ts : List HT) (xs : List Expr) (s : Shared) (b : Bool), chkHTs ts nm n y xs = true → HF C nm vm env n y bo e I g s.heap → C.Rel σ g s.heap →
    hevTs c.isa kx bo o ts = some b → (∀ tk, Q (.bool b) { s with toks := tk }) → wpAny (model C.prog C.w) A (boolOp pos op (evalEach xs env)) Q E s
  | [], xs, s, b, hc, H, R, hb, hq => nomatch hb
  | t :: ts, xs, s, b, hc, H, R, hb, hq => by
    cases xs with
    | nil => cases hc
    | cons x xs =>
      refine byC fun hZ => ?_
      obtain ⟨c1, c2⟩ := and2 (show (chkHT t nm n y x && chkHTs ts nm n y xs) = true from hc)
      obtain ⟨q, h1, h2⟩ := Option.bind_eq_some_iff.mp (show ((hevT c.isa kx bo t).bind fun q => bif ts.isEmpty || q == o then some q else hevTs c.isa kx bo o ts) = some b from hb)
      refine hZ ?_; clear hZ
      cases ts with
      | nil =>
        have hx : xs = [] := List.isEmpty_iff.mp c2
        subst hx
        cases h2
        exact sndHT K X N hI c1 H R h1 hq
      | cons t2 ts =>
        cases xs with
        | nil => cases c2
        | cons x2 xs =>
          show wpAny _ _ (boolOp pos op (eval x env :: eval x2 env :: evalEach xs env)) _ _ _
          refine wpAny_bind (sndHT K X N hI c1 H R h1 fun tk => wpAny_bind (wpAny_standAt (wpAny_bind (wpAny_holding (wpAny_truthy_bool ?_)))))
          refine stop_eq ho (fun hqo => ?_) fun hqo => ?_
          · subst hqo
            have h2 : (bif q == q then some q else hevTs c.isa kx bo q (t2 :: ts)) = some b := h2
            rw [beq_self_eq_true] at h2
            cases h2
            exact hq tk
          · have h2 : (bif q == o then some q else hevTs c.isa kx bo o (t2 :: ts)) = some b := h2
            rw [beq_eq_false_iff_ne.mpr hqo] at h2
            exact sndHTs K X N hI ho (t2 :: ts) (x2 :: xs) { s with toks := tk } b c2 H R h2 hq

theorem const_any {Q : Value → Shared → Prop} {k : Const} {x : Expr} {v : PV} (hc : onE (asConst x) (fun p => okConst k && decide (k = p.1.1)) = true) (R : C.Rel σ g s.heap) (hv : constP k = some v)
    (hq : ∀ g' s' y, Ext noOwn g s g' s' → C.Rel σ g' s'.heap → C.VR g' s'.heap v y → Q y s') : wpAny (model C.prog C.w) A (eval x env) Q E s := by
  refine byC fun hZ => ?_
  obtain ⟨k', a, b, rfl⟩ := fmConst hc
  obtain ⟨h1, h2⟩ := and2 (show (okConst k && decide (k = k')) = true from hc)
  refine hZ ?_; clear hZ
  have h2 := of_decide_eq_true h2
  subst h2
  cases k with
  | none => cases hv; exact fun _ _ _ => hq g s _ (Ext.refl g s) R .none
  | bool b => cases hv; exact fun _ _ _ => hq g s _ (Ext.refl g s) R (.bool b)
  | int i => cases hv; exact wpAny_Constant_int (hq g _ _ (Ext.refl g s).toks R (.int i _))
  | str x => cases hv; exact Calls.Constant_str (hq g _ _ (Ext.refl g s).toks R (.str x _))
  | _ => cases h1

theorem asConst_plain {x : Expr} {f : _ → Bool} (hc : onE (asConst x) f = true) : plainE x = true := by obtain ⟨_, _, _, rfl⟩ := fmConst hc; rfl
theorem consts_any {Q : List Value → Shared → Prop} {pos : Pos} : ∀ (l : List Const) (xs : List Expr) {vs : List PV} {g : Cfg} {s : Shared}, chkCs l xs = true → C.Rel σ g s.heap → constsP l = some vs → (∀ g' s' ys, Ext noOwn g s g' s' → C.Rel σ g' s'.heap → C.VRs g' s'.heap vs ys → Q ys s') →
    wpAny (model C.prog C.w) A (spliced (backTo pos (starEach xs env))) Q E s
  | [], xs, vs, g, s, hc, R, hv, hq => by
    have hx : xs = [] := List.isEmpty_iff.mp hc
    subst hx
    cases hv
    exact Calls.spliced_nil (hq g s [] (Ext.refl g s) R .nil)
  | k :: ks, xs, vs, g, s, hc, R, hv, hq => by
    cases xs with
    | nil => cases hc
    | cons x xs =>
      refine byC fun hZ => ?_
      obtain ⟨c1, c2⟩ := and2 (show (onE (asConst x) (fun p => okConst k && decide (k = p.1.1)) && chkCs ks xs) = true from hc)
      obtain ⟨v, h1, h2⟩ := Option.bind_eq_some_iff.mp (show ((constP k).bind fun v => (constsP ks).map (v :: ·)) = some vs from hv)
      obtain ⟨vs', h3, rfl⟩ := Option.map_eq_some_iff.mp h2
      refine hZ ?_; clear hZ
      have e1 : backTo pos (starEach (x :: xs) env) = (false, eval x env) :: backTo pos (starEach xs env) := by rw [starEach_plain (asConst_plain c1)]; rfl
      rw [e1]
      refine Calls.spliced_cons (const_any c1 R h1 fun g1 s1 y x1 R1 v1 => ?_)
      exact consts_any ks xs c2 R1 h3 fun g2 s2 ys x2 R2 v2 => hq g2 s2 (y :: ys) (x1.trans x2) R2 (.cons (VR_ext R1 x2 Off.none v1) v2)
theorem consts_len : ∀ (l : List Const) (xs : List Expr) {vs : List PV}, chkCs l xs = true → constsP l = some vs → xs.length = l.length ∧ vs.length = l.length
  | [], xs, vs, hc, hv => by
    have hx : xs = [] := List.isEmpty_iff.mp hc
    subst hx; cases hv; exact ⟨rfl, rfl⟩
  | k :: ks, xs, vs, hc, hv => by
    cases xs with
    | nil => cases hc
    | cons x xs =>
      refine byC fun hZ => ?_
      obtain ⟨c1, c2⟩ := and2 (show (onE (asConst x) (fun p => okConst k && decide (k = p.1.1)) && chkCs ks xs) = true from hc)
      obtain ⟨v, h1, h2⟩ := Option.bind_eq_some_iff.mp (show ((constP k).bind fun v => (constsP ks).map (v :: ·)) = some vs from hv)
      obtain ⟨vs', h3, rfl⟩ := Option.map_eq_some_iff.mp h2
      obtain ⟨l1, l2⟩ := consts_len ks xs c2 h3
      refine hZ ?_; clear hZ
      exact ⟨congrArg Nat.succ l1, congrArg Nat.succ l2⟩

theorem FR.wipe {ρ' : List PV} {m' : Str → Option Value} (F : FR C nm vm env ρ g h) (hn : h'.Ns env.locals m') (hs : Heap.SameBut env.locals h h') (hu : ∀ (i : Nat) v, ρ'[i]? = some v → v = .undef) : FR C nm vm env ρ' g h' := by
  have hk : ∀ b o, b ≠ env.locals → h.get? b = some o → h'.get? b = some o := fun b o hb e => by rw [hs.2 b hb]; exact e
  refine byC fun hZ => ?_
  refine byC fun hZ => ?_
  obtain ⟨m, n1, n2⟩ := F.ns
  refine hZ ?_; clear hZ
  refine hZ ?_; clear hZ
  refine ⟨F.kind, F.names, F.glob, F.blt, F.inj, ⟨_, hn, fun z j w a1 a2 a3 a4 => absurd (hu j w a3) a4⟩, fun z j a1 a2 => ?_, F.offL, F.offC, fun z cc b1 => ?_, F.apart, F.stk.but hk fun _ _ q => q⟩
  · refine byC fun hZ => ?_
    refine byC fun hZ => ?_
    obtain ⟨cc, o, b1, b2, b3⟩ := F.cl z j a1 a2
    refine hZ ?_; clear hZ
    refine hZ ?_; clear hZ
    exact ⟨cc, o, b1, b2.sameBut hs (ns_cell_ne n1 b2), fun w a3 a4 => absurd (hu j w a3) a4⟩
  · obtain ⟨o, b2⟩ := F.cliv z cc b1
    exact ⟨o, b2.sameBut hs (ns_cell_ne n1 b2)⟩
theorem loc_ext {tk : Nat} {m' : Str → Option Value} (hn : h'.Ns env.locals m') (hs : Heap.SameBut env.locals s.heap h') : Ext (ownOf env) g s g { s with heap := h', toks := tk } := by
  have hk : ∀ b o, b ≠ env.locals → s.heap.get? b = some o → h'.get? b = some o := fun b o hb e => by rw [hs.2 b hb]; exact e
  refine Ext.heap (fun b o e _ hb => hk b o (fun q => hb (.inl q)) e) fun b hb => ?_
  by_cases hba : b = env.locals
  · subst hba; obtain ⟨o, ho⟩ := Heap.Ns.live hn; exact isSome_of ho
  · obtain ⟨o, ho⟩ := Option.isSome_iff_exists.mp hb; exact isSome_of (hk b o hba ho)
theorem sndHS (K : C.OK) (X : CxOK C c d) {hs : HSs} {xs : List Stmt} {Q : Flow → Shared → Prop} {v : PV} (hl : nm.lookup n = some .local) (hn : plainName n = true) (hI : C.exc kx = some I) (hc : chkHS hs nm n xs = true) (H : HF C nm vm env n hs.y none e I g s.heap) (R : C.Rel σ g s.heap)
    (hv : hsuite c.isa kx hs = some v) (hq : ∀ g' s' z b, Ext (ownOf env) g s g' s' → C.Rel σ g' s'.heap → HF C nm vm env n hs.y b e I g' s'.heap → C.VR g' s'.heap v z → Q (.ret z) s') : wpAny (model C.prog C.w) A (PySem.execs xs env) Q E s := by
  refine byC fun hZ => ?_
  obtain ⟨s1, s2, rfl⟩ := fm2 hc
  obtain ⟨ts, av, apos, rfl⟩ := fmAssign hc
  obtain ⟨t, rfl⟩ := fm1 hc
  obtain ⟨yy, p0, rfl⟩ := fmName hc
  obtain ⟨aop, avs, ap, rfl⟩ := fmBool hc
  obtain ⟨rv, rpos, rfl⟩ := fmRet hc
  obtain ⟨a, ix, spos, rfl⟩ := fmSub hc
  obtain ⟨ls, lp, rfl⟩ := fmLst hc
  obtain ⟨fe, as, cpos, rfl⟩ := fmCall hc
  obtain ⟨fi, p1, rfl⟩ := fmName hc
  obtain ⟨a1, rfl⟩ := fm1 hc
  obtain ⟨oop, ovs, op, rfl⟩ := fmBool hc
  obtain ⟨z4, c5⟩ := and2 (show ((yy == hs.y && !(hs.y == n) && nm.lookup hs.y == some .local && plainName hs.y) && (isAnd aop && chkHTs hs.a nm n hs.y avs) && (fi == "int" && isGlob (nm.lookup fi)) && (isOr oop && chkHTs hs.o nm n hs.y ovs) && chkCs hs.l ls) = true from hc)
  obtain ⟨z3, z4⟩ := and2 z4
  obtain ⟨c4, c4'⟩ := and2 z4
  obtain ⟨z2, z3⟩ := and2 z3
  obtain ⟨c3, c3'⟩ := and2 z3
  obtain ⟨z1, z2⟩ := and2 z2
  obtain ⟨c2, c2'⟩ := and2 z2
  obtain ⟨z1, d4⟩ := and2 z1
  obtain ⟨z1, d3⟩ := and2 z1
  obtain ⟨d1, d2⟩ := and2 z1
  obtain ⟨b, h1, hv⟩ := Option.bind_eq_some_iff.mp hv
  obtain ⟨q, h2, hv⟩ := Option.bind_eq_some_iff.mp hv
  obtain ⟨vs, h3, hv⟩ := Option.bind_eq_some_iff.mp hv
  obtain ⟨l1, l2⟩ := consts_len hs.l ls c5 h3
  obtain ⟨hk, hvk⟩ := Option.ite_none_right_eq_some.mp hv
  obtain ⟨m, n1, n2, _⟩ := H.nx
  refine hZ ?_; clear hZ
  have d1 : yy = hs.y := by simpa using d1
  have d2 : hs.y ≠ n := by simpa using d2
  have d3 : nm.lookup hs.y = some .local := by simpa using d3
  have c3 : fi = "int" := by simpa using c3
  subst d1 c3
  have N : HN nm n hs.y := ⟨hl, hn, d3, d4, d2⟩
  cases aop <;> try (exact absurd (show false = true from c2) Bool.false_ne_true)
  cases oop <;> try (exact absurd (show false = true from c4) Bool.false_ne_true)
  refine wpAny_execs_cons (wpAny_Assign_Name ?_ (swaps_notComp rfl))
  rw [arm_eval_BoolOp]
  refine sndHTs K X N hI (.inl ⟨rfl, rfl⟩) hs.a avs s b c2' H R h1 fun tk => ?_
  have hkind : env.kindOf hs.y = some .local := by rw [← d3, ← H.fr.names]; rfl
  refine wpAny_storeName_local hkind n1 (fun h6 hn6 hs6 => ?_) (by rw [H.fr.kind]; rfl)
  have hk6 : ∀ b o, b ≠ env.locals → s.heap.get? b = some o → h6.get? b = some o := fun b o hb e => by rw [hs6.2 b hb]; exact e
  have R6 : C.Rel σ g h6 := R.kept (.of_but hk6 H.fr.offL)
  have H6 : HF C nm vm env n hs.y (some b) e I g h6 := by
    obtain ⟨o, o1, o2, o3⟩ := H.ex
    refine ⟨H.fr.wipe hn6 hs6 (fun i v q => by simp at q), ⟨_, hn6, ?_, fun q hq => ?_⟩, ⟨o, hk6 e o (fun q => ?_) o1, o2, o3⟩, H.eo⟩
    · simp [d2.symm, n2]
    · cases hq; simp
    · obtain ⟨o', z1, z2⟩ := ns_dD n1
      rw [← q, o1] at z1; cases z1; rw [o3] at z2; cases z2
  have x6 : Ext (ownOf env) g s g { s with heap := h6, toks := tk + 1 } := loc_ext hn6 hs6
  refine wpAny_execs_cons (wpAny_Return_some ?_)
  refine Subscript_ ?_
  show wpAny _ _ (standAt lp >>= fun _ => spliced (backTo lp (starEach ls env)) >>= newList) _ _ _
  refine wpAny_bind (wpAny_standAt (wpAny_bind (consts_any hs.l ls (s := { s with heap := h6, toks := tk + 1 }) c5 R6 h3 fun g1 s1 ys x1 R1 v1 => ?_)))
  have hl3 := v1.length
  have hp1 : PostO C σ g1 s1 (some (.f (.list vs))) (fun y s2 => wpAny (model C.prog C.w) A (eval (.Call (.Name "int" p1) [.BoolOp .Or ovs op] [] cpos) env) (fun z s3 => wpAny (model C.prog C.w) A (subscriptTail (.List ls lp) (.Call (.Name "int" p1) [.BoolOp .Or ovs op] [] cpos) y z) (fun z s4 => Q (.ret z) s4) E s3) E s2) := by
    refine fin_sound (m := 0) (E := E) (show PostE C noOwn g1 s1 (.ok (.lst vs) σ) _ E from fun g2 s2 y x2 R2 v2 => ?_)
    have H2 := (H6.ext (s := { s with heap := h6, toks := tk + 1 }) R6 x1).ext R1 x2
    rw [eval_Call_Name]
    refine wpAny_bind (name_bi K X H2.fr R2 c3' (by decide) (by decide) (v := .type "int") (by rw [K.builtins _ (by decide)]; decide +kernel) ?_)
    have e1 : backTo cpos (starEach [Expr.BoolOp .Or ovs op] env) = [(false, eval (.BoolOp .Or ovs op) env)] := by rw [starEach_plain rfl]; rfl
    rw [e1]
    refine PySem.callWith_type rfl (Calls.evalArgs_plain (Calls.spliced_cons ?_))
    rw [arm_eval_BoolOp]
    refine sndHTs K X N hI (.inr ⟨rfl, rfl⟩) hs.o ovs s2 q c4' H2 R2 h2 fun tk2 => Calls.spliced_nil (call_int_bool ?_)
    refine getAt_tail (s := { s2 with toks := tk2 + 1 }) R2 v2 (.int ..) ?_ ?_
    · rfl
    have e : getAt σ (.lst vs) (.int (if q = true then 1 else 0)) = some (.v v) := by
      show pickAt vs _ = some (.v v)
      unfold pickAt
      rw [if_pos (by cases q <;> decide), hvk]; rfl
    rw [e]
    exact fun g4 s4 y4 x4 R4 v4 => hq g4 s4 y4 _ (x6.trans ((x1.trans x2).trans x4.toks_left).weaken) R4 (H2.ext R2 x4.toks_left) v4
  exact wpAny_newList (hp1.made (tk := s1.toks) R1 (listObj_frs R1 (n := 0) (by simpa using v1))) (by rw [sizeLine_eq]; exact om505 l2 hk hl3)

theorem PostC.shift {r : Res PV} {Q : Value → Shared → Prop} (e : Ext noOwn g s g' s') (hp : PostC C g s r Q E) : PostC C g' s' r Q E := by
  cases r with
  | ok v σ' => exact fun g2 s2 x e2 R2 v2 => hp g2 s2 x (e.trans e2) R2 v2
  | exc k σ' => exact fun s2 x ⟨g2, e2, R2, x2⟩ => hp s2 x ⟨g2, e.trans e2, R2, x2.mono e.live (fun _ q => .inl q) fun _ q => .inr q⟩
  | bad => exact hp
noncomputable def SndTB (C : Fix) (c : Cx) (d : Nat) (b : TB) : Prop := ∀ nm vm l env ρ σ g s A (Q : Flow → Shared → Prop) (E : Value → Shared → Prop), chkTB nm vm b l = true → FR C nm vm env ρ g s.heap → C.Rel σ g s.heap → AOK C A d →
  PostC C g s (tryR c b ρ σ) (fun x s' => Q (.ret x) s') E → wpAny (model C.prog C.w) A (PySem.execs l env) Q E s
theorem snd_last (K : C.OK) (X : CxOK C c d) {f : Str} {args : PEs} (h : SndEs C c d args) : SndTB C c d (.last f args) := by
  intro nm vm l env ρ σ g s A Q E hc F R hA hp
  refine byC fun hZ => ?_
  obtain ⟨r, rfl⟩ := fm1 hc
  obtain ⟨v, rpos, rfl⟩ := fmRet hc
  refine hZ ?_; clear hZ
  have c7 : chkE (.call f args) nm vm v = true := hc
  have hp : PostC C g s ((evs c args 0 ρ σ).bind fun vs σ1 => c.cal f vs σ1) (fun x s' => Q (.ret x) s') E := hp
  cases r1 : evs c args 0 ρ σ with
  | bad => rw [r1] at hp; exact hp.elim
  | exc => rw [r1] at hp; exact hp.elim
  | ok vs σ1 =>
    rw [r1] at hp
    have hp : PostC C g s (c.cal f vs σ1) (fun x s' => Q (.ret x) s') E := hp
    have hnb : c.cal f vs σ1 ≠ .bad := fun q => by rw [q] at hp; exact hp
    exact wpAny_execs_cons (wpAny_Return_some (call_any K X h c7 F R hA r1 hnb fun g1 s1 e1 R1 => hp.shift e1))
theorem snd_iff (K : C.OK) (X : CxOK C c d) {t : PE} {f : Str} {args : PEs} {r : TB} (ht : SndT C c d t) (h : SndEs C c d args) (hr : SndTB C c d r) : SndTB C c d (.iff t f args r) := by
  intro nm vm l env ρ σ g s A Q E hc F R hA hp
  cases l with
  | nil => cases hc
  | cons st rest =>
    refine byC fun hZ => ?_
    obtain ⟨c1, c2⟩ := and2 (show (chkI nm vm t f args st && chkTB nm vm r rest) = true from hc)
    obtain ⟨t', bd, oe, pos, rfl⟩ := fmIf c1
    obtain ⟨d12, d3⟩ := and2 (show (chkE t nm vm t' && chkR nm vm f args bd && oe.isEmpty) = true from c1)
    obtain ⟨d1, d2⟩ := and2 d12
    refine hZ ?_; clear hZ
    have d3 : oe = [] := List.isEmpty_iff.mp d3
    subst d3
    have hp : PostC C g s ((ev c t 0 ρ σ).bind fun x σ1 => pickB (truth σ1 x) ((evs c args 0 ρ σ1).bind fun vs σ2 => c.cal f vs σ2) (tryR c r ρ σ1)) (fun x s' => Q (.ret x) s') E := hp
    cases r1 : ev c t 0 ρ σ with
    | bad => rw [r1] at hp; exact hp.elim
    | exc => rw [r1] at hp; exact hp.elim
    | ok x σ1 =>
      rw [r1] at hp
      have hp : PostC C g s (pickB (truth σ1 x) ((evs c args 0 ρ σ1).bind fun vs σ2 => c.cal f vs σ2) (tryR c r ρ σ1)) (fun x s' => Q (.ret x) s') E := hp
      cases hq : truth σ1 x with
      | none => rw [hq] at hp; exact hp.elim
      | some q =>
        rw [hq] at hp
        refine wpAny_execs_cons (wpAny_If (ht nm vm t' env ρ σ g s A _ _ d1 F R hA (PostT.mk r1 hq fun g1 s1 e1 R1 => ?_)))
        cases q with
        | true => exact snd_last K X h nm vm bd env ρ σ1 g1 s1 A _ _ d2 (F.ext R e1) R1 hA (PostC.shift e1 hp)
        | false => exact wpAny_execs_nil (hr nm vm rest env ρ σ1 g1 s1 A _ _ c2 (F.ext R e1) R1 hA (PostC.shift e1 hp))

theorem sndS_try (K : C.OK) (X : CxOK C c d) {b : TB} {k : Str} {i : Nat} {hs : HSs} (h : SndTB C c d b) : SndS C c d (.tryS b k i hs) := by
  intro nm vm st env ρ σ g s A Q E hc F R hA hT hp
  refine byC fun hZ => ?_
  obtain ⟨body, hds, pos, rfl⟩ := fmTry hc
  obtain ⟨hd, rfl⟩ := fm1 hc
  obtain ⟨te, n, suite, hpos, rfl⟩ := fmHand hc
  obtain ⟨y, np, rfl⟩ := fmName hc
  obtain ⟨a7, c8⟩ := and2 (show (y == k && isGlob (nm.lookup y) && plainName y && vm.lookup n == some i && nm.lookup n == some .local && plainName n && chkTB nm vm b body && chkHS hs nm n suite) = true from hc)
  obtain ⟨a6, c7⟩ := and2 a7
  obtain ⟨a5, c6⟩ := and2 a6
  obtain ⟨a4, b5⟩ := and2 a5
  obtain ⟨a3, c4⟩ := and2 a4
  obtain ⟨a2, c3⟩ := and2 a3
  obtain ⟨b1, c2⟩ := and2 a2
  obtain ⟨b0, bs, rfl⟩ := fm2 c8
  refine hZ ?_; clear hZ
  have c1 : y = k := by simpa using b1
  have c5 : nm.lookup n = some .local := by simpa using b5
  subst c1
  have hp : PostX C nm vm env g s (tried c.isa y hs ρ (tryR c b ρ σ)) Q E := hp
  refine wpAny_Try_except (h nm vm body env ρ σ g s A _ _ c7 F R hA ?_)
  cases hr : tryR c b ρ σ with
  | bad => rw [hr] at hp; exact hp.elim
  | ok x σ2 =>
    rw [hr] at hp
    exact fun g2 s2 y e2 R2 v2 => hp g2 s2 _ e2.weaken R2 (F.ext R e2) ⟨y, rfl, v2⟩
  | exc kx σ2 =>
    rw [hr] at hp
    have hp : PostX C nm vm env g s (handled c.isa kx hs ρ σ2 (isT c.isa kx y)) Q E := hp
    cases hb : isT c.isa kx y with
    | none => rw [hb] at hp; exact hp.elim
    | some b => cases b with
    | false => rw [hb] at hp; exact hp.elim
    | true =>
    rw [hb] at hp
    have hp : PostX C nm vm env g s (match hsuite c.isa kx hs with
      | some v => .ok (.ret v, ρ.map fun _ => .undef) σ2
      | none => .bad) Q E := hp
    cases hv : hsuite c.isa kx hs with
    | none => rw [hv] at hp; exact hp.elim
    | some u =>
    rw [hv] at hp
    rintro s2 e ⟨g2, x2, R2, y2⟩
    have S2 : StkC C g2 s2.heap := F.full.ext x2 fun _ _ q => q
    refine note_thrown hA.fs hA.fk hT x2 R2 S2 (.inl y2) fun h3 x3 R3 y3 S3 => ?_
    refine byC fun hZ => ?_
    refine byC fun hZ => ?_
    obtain ⟨I, base, a0, env', l, L, hI, hfs, hfL, hh, hbs⟩ := y3
    obtain ⟨hk, hisa⟩ := isT_elim hb
    obtain ⟨cv, hcv, _, hm⟩ := X.isa kx I hI y (hk.imp (X.exk y) id)
    refine hZ ?_; clear hZ
    refine hZ ?_; clear hZ
    refine wpAny_landsW hh fun h4 hf4 hu => ?_
    refine byC fun hZ => ?_
    obtain ⟨x4, R4, hb4, S4⟩ := x3.fly R3 S3 hbs hf4.1 hu
    refine hZ ?_; clear hZ
    have F4 := F.ext R x4
    have hkind : env.kindOf n = some .local := by rw [← c5, ← F.names]; rfl
    refine wpAny_handleBy_cons (codeAny_handlers_test (h_cls K X F4 R4 c2 c3 hcv ?_)) (by intro q; cases q)
    refine byC fun hZ => ?_
    obtain ⟨oe, o1, o2⟩ := hf4.there
    refine hZ ?_; clear hZ
    refine hm R4.rel.base o1 o2 ?_
    rw [hisa]
    refine codeAny_handlers_suite_as ?_
    refine byC fun hZ => ?_
    obtain ⟨f1, f2, f3, f4⟩ := hf4
    refine hZ ?_; clear hZ
    refine wpAny_setFlight_noneW f1 f3 f4.at fun h5 k1 k2 k3 k4 => ?_
    refine byC fun hZ => ?_
    obtain ⟨x5, R5, hb5, S5⟩ := x4.fly R4 S4 hb4 k1 fun b o hb hn => ⟨o.slots, k4 b o hb hn⟩
    refine hZ ?_; clear hZ
    have F5 := F.ext R x5
    refine byC fun hZ => ?_
    refine byC fun hZ => ?_
    obtain ⟨m, n1, _⟩ := F5.ns
    obtain ⟨oe, vs5, T5, oT5, ts5, q1, ⟨q2, _⟩, q3, _⟩ := k3
    refine hZ ?_; clear hZ
    refine hZ ?_; clear hZ
    refine wpAny_storeName_local hkind n1 (fun h6 hn6 hs6 => ?_) (by rw [F5.kind]; rfl)
    have hk6 : ∀ b o, b ≠ env.locals → h5.get? b = some o → h6.get? b = some o := fun b o hb e => by rw [hs6.2 b hb]; exact e
    have kept6 : Kept g2 h5 h6 := .of_but hk6 F5.offL
    have R6 : C.Rel σ2 g2 h6 := R5.kept kept6
    have dde : dD oe = false := by show dDd oe.data = false; rw [q3]; rfl
    have H6 : HF C nm vm env n hs.y none e I g2 h6 := by
      refine ⟨F5.wipe hn6 hs6 (fun i v q => by simp at q), ⟨_, hn6, by simp, fun q hq => nomatch hq⟩, ⟨oe, hk6 e oe (fun q => ?_) q1, q2, dde⟩, fun q => ?_⟩
      · refine byC fun hZ => ?_
        obtain ⟨o', z1, z2⟩ := ns_dD n1
        refine hZ ?_; clear hZ
        rw [← q, q1] at z1; cases z1; rw [dde] at z2; cases z2
      · have := hb5 e oe q1 (.inl q)
        rw [f2] at this; cases this
    refine sndHS (s := { s2 with heap := h6, toks := s2.toks + 1 }) K X c5 c6 hI c8 H6 R6 hv fun g7 s7 z b7 x7 R7 H7 v7 => ?_
    refine byC fun hZ => ?_
    obtain ⟨m7, n7, _⟩ := H7.nx
    refine hZ ?_; clear hZ
    refine wpAny_nameGoes hkind n7 (by rw [F5.kind]; rfl) fun h8 m8 hn8 hs8 => ?_
    have kept8 : Kept g7 s7.heap h8 := .of_but (fun b o hb e => by rw [hs8.2 b hb]; exact e) H7.fr.offL
    refine hp g7 _ _ ?_ (R7.kept kept8) (H7.fr.wipe hn8 hs8 fun i v q => ?_) ⟨z, rfl, VR_kept (C := C) kept8 v7⟩
    · have a1 : Ext (ownOf env) g s g2 { s2 with heap := h5 } := x5.weaken
      have a2 : Ext (ownOf env) g2 { s2 with heap := h5 } g2 { s2 with heap := h6, toks := s2.toks + 1 } := loc_ext (s := { s2 with heap := h5 }) hn6 hs6
      have a3 : Ext (ownOf env) g7 s7 g7 { s7 with heap := h8, toks := s7.toks + 1 } := loc_ext hn8 hs8
      exact ((a1.trans a2).trans x7).trans a3
    · rw [List.getElem?_map] at q
      refine byC fun hZ => ?_
      obtain ⟨_, _, rfl⟩ := Option.map_eq_some_iff.mp q
      refine hZ ?_; clear hZ
      rfl

theorem sndTB (K : C.OK) (X : CxOK C c d) : ∀ b : TB, SndTB C c d b
  | .last f args => snd_last K X (sndPs K X args).es
  | .iff t f args r => snd_iff K X (sndP K X t).t (sndPs K X args).es (sndTB K X r)
mutual
theorem sndS (K : C.OK) (X : CxOK C c d) : ∀ ps : PS, SndS C c d ps
  | .assign i m e => sndS_assign (sndP K X e).e fun elt t it cond _ => ⟨(sndP K X it).e, (sndP K X elt).e, (sndP K X cond).t⟩
  | .setitem o i m v => sndS_setitem (sndP K X o).e (sndP K X i).e (sndP K X v).e
  | .assignT is e => sndS_assignT (sndP K X e).e
  | .whileS t b ks => sndS_while (sndP K X t).t (sndSs K X b)
  | .expr e => sndS_expr (sndP K X e).e
  | .ret m e => sndS_ret (sndP K X e).e
  | .ite t a b => sndS_ite (sndP K X t).t (sndSs K X a) (sndSs K X b)
  | .forS t it body ks => sndS_for (sndP K X it).e (sndSs K X body)
  | .raise k x => sndS_raise K X
  | .tryS b k i hs => sndS_try K X (sndTB K X b)
theorem sndSs (K : C.OK) (X : CxOK C c d) : ∀ ps : PSs, SndSs C c d ps
  | .nil => sndSs_nil
  | .cons p ps => sndSs_cons (sndS K X p) (sndSs K X ps)
end
end Mine

set_option autoImplicit false
set_option backward.match.sparseCases true
set_option linter.unusedVariables false
namespace Mine
open PySem PyProof.Rows PySem.SeqAt

variable {C : Fix} {c : Cx} {σ σ' : AH} {g g' : Cfg} {h h' : Heap} {s s' : Shared} {own : Addr → Prop} {A : Around} {d : Nat} {nm : NM} {vm : VM} {env : Env} {ρ : List PV}
  {Q : Value → Shared → Prop} {E : Value → Shared → Prop}

noncomputable def Cfg.cool (g : Cfg) (n : Nat) : Cfg := ⟨g.μ.take n, fun a => g.Φ a ∨ a ∈ g.μ.drop n, g.lk⟩

section
variable {n : Nat} {dd : Nat → Option PV}

theorem frz3_sound (hd : ∀ (i : Nat) v' a, dd i = some v' → g.μ[i]? = some a → C.VR (g.cool n) h v' (.ref a)) :
    (∀ {v x}, C.VR g h v x → ∀ v', frzW dd v = some v' → C.VR (g.cool n) h v' x) ∧ (∀ {v x}, C.VRs g h v x → ∀ v', frzWs dd v = some v' → C.VRs (g.cool n) h v' x) ∧ (∀ {v x}, C.VRd g h v x → ∀ v', frzWd dd v = some v' → C.VRd (g.cool n) h v' x) := by
  refine VR.ind (fun _ e => Option.some.inj e ▸ .none) (fun b _ e => Option.some.inj e ▸ .bool b) (fun i t _ e => Option.some.inj e ▸ .int i t) (fun y t _ e => Option.some.inj e ▸ .str y t)
    (fun l a vs ha hl _ q v' e => ?_) (fun l a vs ha hl _ q v' e => ?_) (fun l a vs ha hm hl _ q v' e => ?_) (fun _ _ _ ha hl _ e => Option.some.inj e ▸ .rng (.inl ha) hl) (fun i a hi v' e => hd _ _ _ e hi)
    (fun _ e => Option.some.inj e ▸ .nil) (fun v x l r _ _ a b v' e => ?_) (fun _ e => Option.some.inj e ▸ .nil) (fun k v x l r _ _ a b v' e => ?_)
  · obtain ⟨l', e1, rfl⟩ := Option.map_eq_some_iff.mp (show (frzWs dd l).map PV.tup = some v' from e)
    exact .tup (.inl ha) hl (q _ e1)
  · obtain ⟨l', e1, rfl⟩ := Option.map_eq_some_iff.mp (show (frzWs dd l).map PV.lst = some v' from e)
    exact .lst (.inl ha) hl (q _ e1)
  · obtain ⟨l', e1, rfl⟩ := Option.map_eq_some_iff.mp (show (frzWd dd l).map PV.dct = some v' from e)
    exact .dct (.inl ha) hm hl (q _ e1)
  · have e := (frzWs_c dd v l).symm.trans e
    cases h1 : frzW dd v with
    | none => rw [h1] at e; cases e
    | some v' =>
      cases h2 : frzWs dd l with
      | none => rw [h1, h2] at e; cases e
      | some l' => rw [h1, h2] at e; cases e; exact .cons (a _ h1) (b _ h2)
  · have e := (frzWd_c dd k v l).symm.trans e
    cases h1 : frzW dd v with
    | none => rw [h1] at e; cases e
    | some v' =>
      cases h2 : frzWd dd l with
      | none => rw [h1, h2] at e; cases e
      | some l' => rw [h1, h2] at e; cases e; exact .cons (a _ h1) (b _ h2)
theorem frzW_sound (hd : ∀ (i : Nat) v' a, dd i = some v' → g.μ[i]? = some a → C.VR (g.cool n) h v' (.ref a)) {v v' : PV} {x : Value} (q : C.VR g h v x) (e : frzW dd v = some v') : C.VR (g.cool n) h v' x := (frz3_sound hd).1 q _ e
theorem frzWs_sound (hd : ∀ (i : Nat) v' a, dd i = some v' → g.μ[i]? = some a → C.VR (g.cool n) h v' (.ref a)) {v v' : List PV} {x : List Value} (q : C.VRs g h v x) (e : frzWs dd v = some v') : C.VRs (g.cool n) h v' x := (frz3_sound hd).2.1 q _ e
theorem frzWd_sound (hd : ∀ (i : Nat) v' a, dd i = some v' → g.μ[i]? = some a → C.VR (g.cool n) h v' (.ref a)) {v v' : List (Str × PV)} {x : List (Str × Value)} (q : C.VRd g h v x) (e : frzWd dd v = some v') : C.VRd (g.cool n) h v' x := (frz3_sound hd).2.2 q _ e

theorem cool_low {i : Nat} {a : Addr} (hi : i < n) (h : g.μ[i]? = some a) : (g.cool n).μ[i]? = some a := by
  show (g.μ.take n)[i]? = some a
  rw [List.getElem?_take_of_lt hi]; exact h
theorem cool_high {i : Nat} {a : Addr} (hi : ¬ i < n) (h : g.μ[i]? = some a) : a ∈ g.μ.drop n := by
  have : (g.μ.drop n)[i - n]? = some a := by rw [List.getElem?_drop]; rw [show n + (i - n) = i by exact om313 hi]; exact h
  exact List.mem_of_getElem? this

theorem frz_sound (R : C.Rel σ g h) : ∀ (k : Nat) {v v' : PV} {x : Value}, frz n σ k v = some v' → C.VR g h v x → C.VR (g.cool n) h v' x
  | 0, v, v', x, e, hv => by
    refine frzW_sound (fun i v' a e1 e2 => ?_) hv e
    split at e1
    · rename_i hi; cases e1; exact .ref (cool_low hi e2)
    · cases e1
  | k + 1, v, v', x, e, hv => by
    refine frzW_sound (fun i v' a e1 e2 => ?_) hv e
    split at e1
    · rename_i hi; cases e1; exact .ref (cool_low hi e2)
    · rename_i hi
      have hin := cool_high hi e2
      cases ho : σ[i]? with
      | none => rw [ho] at e1; cases e1
      | some o =>
        rw [ho] at e1
        have hor := R.rel.objs i o a ho e2
        cases o with
        | list b l =>
          refine byC fun hZ => ?_
          obtain ⟨_, vs, h1, h2⟩ := hor
          obtain ⟨l', e3, rfl⟩ := Option.map_eq_some_iff.mp e1
          refine hZ ?_; clear hZ
          exact .lst (.inr hin) h1 (frzWs_sound (fun j v'' a' e4 e5 => frz_sound R k e4 (.ref e5)) h2 e3)
        | dict b l =>
          refine byC fun hZ => ?_
          obtain ⟨_, kvs, h1, h2⟩ := hor
          obtain ⟨l', e3, rfl⟩ := Option.map_eq_some_iff.mp e1
          refine hZ ?_; clear hZ
          exact .dct (.inr hin) (R.notSys (R.rel.disj a (List.mem_of_getElem? e2))) h1 (frzWd_sound (fun j v'' a' e4 e5 => frz_sound R k e4 (.ref e5)) h2 e3)

theorem low3 {g0 : Cfg} {h0 : Heap} (e : g0.μ.length = n) :
    (∀ {v y}, C.VR g0 h0 v y → ∀ x, C.VR g h v x → C.VR (g.cool n) h v x) ∧ (∀ {v y}, C.VRs g0 h0 v y → ∀ x, C.VRs g h v x → C.VRs (g.cool n) h v x) ∧ (∀ {v y}, C.VRd g0 h0 v y → ∀ x, C.VRd g h v x → C.VRd (g.cool n) h v x) := by
  refine VR.ind (fun _ q => by cases q; exact .none) (fun b _ q => by cases q; exact .bool b) (fun i t _ q => by cases q; exact .int i _) (fun y t _ q => by cases q; exact .str y _)
    (fun l a vs _ _ _ r v' q => ?_) (fun l a vs _ _ _ r v' q => ?_) (fun l a vs _ _ _ _ r v' q => ?_) (fun _ _ _ _ _ _ q => ?_) (fun i a hi v' q => ?_)
    (fun _ q => by cases q; exact .nil) (fun v x l r _ _ a b v' q => ?_) (fun _ q => by cases q; exact .nil) (fun k v x l r _ _ a b v' q => ?_)
  · cases q with | tup ha hl hr' => exact .tup (.inl ha) hl (r _ hr')
  · cases q with | lst ha hl hr' => exact .lst (.inl ha) hl (r _ hr')
  · cases q with | dct ha hm hl hr' => exact .dct (.inl ha) hm hl (r _ hr')
  · cases q with | rng ha hl => exact .rng (.inl ha) hl
  · cases q with | ref hj => exact .ref (cool_low (e ▸ (List.getElem?_eq_some_iff.mp hi).1) hj)
  · cases q with | cons a' b' => exact .cons (a _ a') (b _ b')
  · cases q with | cons a' b' => exact .cons (a _ a') (b _ b')
theorem vrs_low {g0 : Cfg} {h0 : Heap} {v : List PV} {x0 x : List Value} (a : C.VRs g0 h0 v x0) (b : C.VRs g h v x) (e : g0.μ.length = n) : C.VRs (g.cool n) h v x := (low3 e).2.1 a _ b
theorem vrd_low {g0 : Cfg} {h0 : Heap} {v : List (Str × PV)} {x0 x : List (Str × Value)} (a : C.VRd g0 h0 v x0) (b : C.VRd g h v x) (e : g0.μ.length = n) : C.VRd (g.cool n) h v x := (low3 e).2.2 a _ b
end

theorem take_pre {α : Type} {l l' : List α} (h : l <+: l') : l'.take l.length = l := by
  obtain ⟨t, rfl⟩ := h; simp

theorem cool_rel (R0 : C.Rel σ g s.heap) (R : C.Rel σ' g' s'.heap) (e : Ext noOwn g s g' s') (ht : σ'.take σ.length = σ) : C.Rel σ (g'.cool σ.length) s'.heap := by
  have hμ : (g'.cool σ.length).μ = g.μ := by rw [← R0.rel.len]; exact take_pre e.pre
  have hnd : (g'.μ.take σ.length ++ g'.μ.drop σ.length).Nodup := by rw [List.take_append_drop]; exact R.rel.nodup
  have hdis := (List.nodup_append.mp hnd).2.2
  have hlow : ∀ {i : Nat}, i < σ.length → σ[i]? = σ'[i]? := fun {i} hi => by
    have : (σ'.take σ.length)[i]? = σ'[i]? := List.getElem?_take_of_lt hi
    rw [ht] at this; exact this
  refine ⟨{ len := by rw [hμ]; exact R0.rel.len, nodup := (List.nodup_append.mp hnd).1, disj := fun a ha q => q.elim (R.rel.disj a (List.mem_of_mem_take ha)) fun q => hdis a ha a q rfl, lkμ := fun a ha => ?_, live := fun a ha => ha.elim (R.rel.live a) fun q => ?_, base := R.rel.base, baseμ := fun a ha => R.rel.baseμ a (List.mem_of_mem_take ha), objs := fun i o a h1 h2 => ?_ }, fun b hb => .inl (R.bas b hb), R.sys⟩
  · rw [hμ]; exact R0.rel.lkμ a (by rw [← e.lock]; exact ha)
  · have hm := List.mem_of_mem_drop q
    cases hq : s'.heap.get? a with
    | none => exact absurd hm (R.fresh hq).1
    | some o => rfl
  · have hi : i < σ.length := (List.getElem?_eq_some_iff.mp h1).1
    have h2' : g'.μ[i]? = some a := by
      have : (g'.μ.take σ.length)[i]? = some a := h2
      rwa [List.getElem?_take_of_lt hi] at this
    have h2'' : g.μ[i]? = some a := by rw [hμ] at h2; exact h2
    have hor := R.rel.objs i o a (by rw [← hlow hi]; exact h1) h2'
    have hor0 := R0.rel.objs i o a h1 h2''
    cases o with
    | list b l =>
      refine byC fun hZ => ?_
      obtain ⟨q1, vs, q2, q3⟩ := hor
      obtain ⟨_, vs0, _, q4⟩ := hor0
      refine hZ ?_; clear hZ
      exact ⟨q1, vs, q2, vrs_low q4 q3 R0.rel.len⟩
    | dict b l =>
      refine byC fun hZ => ?_
      obtain ⟨q1, vs, q2, q3⟩ := hor
      obtain ⟨_, vs0, _, q4⟩ := hor0
      refine hZ ?_; clear hZ
      exact ⟨q1, vs, q2, vrd_low q4 q3 R0.rel.len⟩
theorem cool_ext (R0 : C.Rel σ g s.heap) (R : C.Rel σ' g' s'.heap) (e : Ext noOwn g s g' s') : Ext noOwn g s (g'.cool σ.length) s' := by
  have hμ : (g'.cool σ.length).μ = g.μ := by rw [← R0.rel.len]; exact take_pre e.pre
  have hnd : (g'.μ.take σ.length ++ g'.μ.drop σ.length).Nodup := by rw [List.take_append_drop]; exact R.rel.nodup
  have hdis := (List.nodup_append.mp hnd).2.2
  refine ⟨by rw [hμ]; exact List.prefix_refl _, fun a ha => .inl (e.sub a ha), fun a ha => .inl (by rw [hμ] at ha; exact ha), fun a ha => ?_, e.lock, e.keep, e.keepF, e.live, e.gens, e.os⟩
  rcases ha with ha | ha
  · exact e.newΦ a ha
  · rcases e.newμ a (List.mem_of_mem_drop ha) with q | q
    · have : a ∈ (g'.cool σ.length).μ := by rw [hμ]; exact q
      exact absurd rfl (hdis a this a ha)
    · exact .inr q
end Mine

set_option autoImplicit false
set_option backward.match.sparseCases true
set_option linter.unusedVariables false
namespace Mine
open PySem PyProof.Rows PySem.SeqAt PySem.Calls

theorem zip_lookup_some {α : Type} : ∀ (ns : List Str) (vs : List α) (i : Nat) (n : Str) (v : α), ns.Nodup → ns[i]? = some n → vs[i]? = some v → (ns.zip vs).lookup n = some v
  | m :: ns, w :: vs, 0, n, v, hn, h1, h2 => by
    simp only [List.getElem?_cons_zero, Option.some.injEq] at h1 h2
    subst h1 h2; simp
  | m :: ns, w :: vs, i + 1, n, v, hn, h1, h2 => by
    simp only [List.getElem?_cons_succ] at h1 h2
    rw [List.nodup_cons] at hn
    have hne : (n == m) = false := by
      rw [beq_eq_false_iff_ne]; rintro rfl
      exact hn.1 (List.mem_of_getElem? h1)
    rw [List.zip_cons_cons, List.lookup_cons, hne]
    exact zip_lookup_some ns vs i n v hn.2 h1 h2
theorem zip_all {α : Type} {ns : List Str} {vs : List α} (hn : ns.Nodup) (hl : vs.length = ns.length) {n : Str} (h : n ∈ ns) : ((ns.zip vs).lookup n).isSome = true := by
  obtain ⟨i, hi⟩ := List.getElem?_of_mem h
  have hlt := (List.getElem?_eq_some_iff.mp hi).1
  rw [zip_lookup_some ns vs i n (vs[i]'(by exact om265 hl hlt)) hn hi (by simp)]; rfl
theorem filterMap_same {α β : Type} {f g : α → Option β} : ∀ {l : List α}, (∀ x ∈ l, f x = g x) → l.filterMap f = l.filterMap g
  | [], _ => rfl
  | x :: l, h => by
    rw [List.filterMap_cons, List.filterMap_cons, h x (List.mem_cons_self ..), filterMap_same fun y hy => h y (List.mem_cons_of_mem _ hy)]
theorem zip_again {α : Type} : ∀ (ns : List Str) (vs : List α), ns.Nodup → vs.length = ns.length → ns.filterMap (fun n => ((ns.zip vs).lookup n).map (n, ·)) = ns.zip vs
  | [], vs, _, _ => by cases vs <;> rfl
  | n :: ns, [], _, h => by cases h
  | n :: ns, v :: vs, hn, hl => by
    rw [List.nodup_cons] at hn
    rw [List.filterMap_cons, List.zip_cons_cons, List.lookup_cons]
    simp only [beq_self_eq_true, Option.map_some]
    congr 1
    refine Eq.trans ?_ (zip_again ns vs hn.2 (by simpa using hl))
    refine filterMap_same fun m hm => ?_
    have : (m == n) = false := by rw [beq_eq_false_iff_ne]; rintro rfl; exact hn.1 hm
    rw [List.lookup_cons, this]

theorem bind_plain {name qual : Str} {params : Arguments} {body : List Stmt} {scope : Scope} {pm code doc : Value} {vals : List Value} (h1 : params.posonlyargs = []) (h2 : params.vararg = none) (h3 : params.kwonlyargs = []) (h4 : params.kwarg = none)
    (hn : (params.args.map (·.arg)).Nodup) (hl : vals.length = params.args.length) : bindArgs (methDef name qual params body scope pm code doc) ⟨vals, []⟩ = pure ((params.args.map (·.arg)).zip vals) := by
  have hl' : vals.length = (params.args.map (·.arg)).length := by simpa using hl
  have hm : ((params.args.map (·.arg)).filter fun n => (((params.args.map (·.arg)).zip vals).lookup n).isNone) = [] := by
    rw [List.filter_eq_nil_iff]
    intro n hn'
    have := zip_all hn hl' hn'
    rw [Option.isNone_iff_eq_none]
    intro q; rw [q] at this; cases this
  have hf := zip_again (params.args.map (·.arg)) vals hn hl'
  unfold bindArgs methDef
  simp only [h1, h2, h3, h4, List.map_nil, List.nil_append, List.append_nil, List.forIn_nil, pure_bind]
  have hs : seqItems? Value.none = pure none := rfl
  simp only [hs, pure_bind, Option.getD_none, List.length_nil, Nat.zero_sub, List.drop_nil, Nat.sub_zero, List.zip_nil_right, List.forIn_nil]
  have hgt : ¬ vals.length > (params.args.map (·.arg)).length := by exact om315 hl'
  have hgt' : (decide (vals.length > (params.args.map (·.arg)).length)) = false := by simp; exact om267 hl
  rw [List.take_length]
  simp only [hgt', hm, List.isEmpty_nil, Bool.not_true, Bool.false_eq_true, if_false, Bool.false_and, hf]

noncomputable def ownNames (nm : NM) : List Str := (nm.filter fun p => isOwn (some p.2)).map (·.1)
noncomputable def vmOf (ns : List Str) : VM := ns.zip (List.range ns.length)

noncomputable def fnChk (F : Fn) (params : Arguments) (body : List Stmt) (scope : Scope) : Bool :=
  params.posonlyargs.isEmpty && params.vararg.isNone && params.kwonlyargs.isEmpty && params.kwarg.isNone && decide (params.args.length = F.nargs) &&
  decide ((ownNames scope.names).take F.nargs = params.args.map (·.arg)) && decide ((scope.names.map (·.1)).Nodup) && scope.kind == .function && !scope.isGenerator && !scope.isCoroutine &&
  scope.names.all (fun p => match p.2 with | .local | .cell | .globalImplicit => true | _ => false) && chkSs F.body scope.names (vmOf (ownNames scope.names)) body

structure FnChk (F : Fn) (params : Arguments) (body : List Stmt) (scope : Scope) : Prop where
  p1 : params.posonlyargs = []
  p2 : params.vararg = none
  p3 : params.kwonlyargs = []
  p4 : params.kwarg = none
  len : params.args.length = F.nargs
  take : (ownNames scope.names).take F.nargs = params.args.map (·.arg)
  nodup : (scope.names.map (·.1)).Nodup
  kind : scope.kind = .function
  gen : scope.isGenerator = false
  cor : scope.isCoroutine = false
  kinds : ∀ p ∈ scope.names, p.2 = .local ∨ p.2 = .cell ∨ p.2 = .globalImplicit
  chk : chkSs F.body scope.names (vmOf (ownNames scope.names)) body = true
theorem fnChk_of {F : Fn} {params : Arguments} {body : List Stmt} {scope : Scope} (h : fnChk F params body scope = true) : FnChk F params body scope := by
  unfold fnChk at h
  simp only [Bool.and_eq_true, decide_eq_true_eq, List.isEmpty_iff, Option.isNone_iff_eq_none, beq_iff_eq, Bool.not_eq_true'] at h
  refine byC fun hZ => ?_
  obtain ⟨⟨⟨⟨⟨⟨⟨⟨⟨⟨⟨h1, h2⟩, h3⟩, h4⟩, h5⟩, h6⟩, h7⟩, h8⟩, h9⟩, h10⟩, h11⟩, h12⟩ := h
  refine hZ ?_; clear hZ
  refine ⟨h1, h2, h3, h4, h5, h6, h7, h8, h9, h10, fun p hp => ?_, h12⟩
  have := List.all_eq_true.mp h11 p hp
  obtain ⟨n, k⟩ := p
  cases k <;> first | exact .inl rfl | exact .inr (.inl rfl) | exact .inr (.inr rfl) | cases this

variable {C : Fix} {c : Cx} {σ σ' : AH} {g g' : Cfg} {h h' : Heap} {s s' : Shared} {own : Addr → Prop} {A : Around} {d : Nat} {nm : NM} {vm : VM} {env : Env} {ρ : List PV}
  {Q : Value → Shared → Prop} {E : Value → Shared → Prop}

noncomputable def FnAt (C : Fix) (a : Addr) (F : Fn) : Prop := ∃ o name qual params body scope pm code doc, C.B.get? a = some o ∧ o.data = .func (methDef name qual params body scope pm code doc) ∧ C.B.CodeRec code qual ∧ FnChk F params body scope
noncomputable def FnOK (C : Fix) (f : Str) (F : Fn) : Prop := ∃ a, C.mg f = some (.ref a) ∧ FnAt C a F

theorem vmOf_get {ns : List Str} {x : Str} {i : Nat} (h : (vmOf ns).lookup x = some i) : ns[i]? = some x := by
  have hm := lookup_mem_pair h
  unfold vmOf at hm
  obtain ⟨k, hk⟩ := List.getElem?_of_mem hm
  rw [List.getElem?_zip_eq_some] at hk
  obtain ⟨h1, h2⟩ := hk
  have h3 : k = i := by
    have hlt := (List.getElem?_eq_some_iff.mp h2).1
    have := (List.getElem?_eq_some_iff.mp h2).2
    simpa using this
  rw [← h3]; exact h1
theorem vmOf_nodup (ns : List Str) : ((vmOf ns).map (·.2)).Nodup := by
  unfold vmOf
  rw [show (fun (p : Str × Nat) => p.2) = Prod.snd from rfl, List.map_snd_zip (by simp)]
  exact List.nodup_range
theorem own_nodup {nm : NM} (h : (nm.map (·.1)).Nodup) : (ownNames nm).Nodup := by
  unfold ownNames
  exact h.sublist (List.Sublist.map _ List.filter_sublist)
theorem lookup_of_mem {α : Type} : ∀ {l : List (Str × α)} {x : Str} {a : α}, (l.map (·.1)).Nodup → (x, a) ∈ l → l.lookup x = some a
  | (n, b) :: r, x, a, hn, hm => by
    rw [List.map_cons, List.nodup_cons] at hn
    rw [List.lookup_cons]
    rcases List.mem_cons.mp hm with e | e
    · cases e; simp
    · have : (x == n) = false := by rw [beq_eq_false_iff_ne]; rintro rfl; exact hn.1 (List.mem_map.mpr ⟨_, e, rfl⟩)
      rw [this]; exact lookup_of_mem hn.2 e
theorem own_kind {nm : NM} (hn : (nm.map (·.1)).Nodup) {x : Str} (h : x ∈ ownNames nm) : isOwn (nm.lookup x) = true := by
  unfold ownNames at h
  refine byC fun hZ => ?_
  obtain ⟨⟨n, k⟩, h1, rfl⟩ := List.mem_map.mp h
  obtain ⟨h2, h3⟩ := List.mem_filter.mp h1
  refine hZ ?_; clear hZ
  rw [lookup_of_mem hn h2]; exact h3

theorem bindL_get {kindOf : Str → Option NameKind} : ∀ (binds : List (Str × Value)) (m : Str → Option Value) (x : Str) (v : Value), (binds.map (·.1)).Nodup → binds.lookup x = some v → kindOf x = some .local → bindL kindOf binds m x = some v
  | (n, w) :: r, m, x, v, hn, hl, hk => by
    rw [List.map_cons, List.nodup_cons] at hn
    rw [List.lookup_cons] at hl
    unfold bindL
    cases hx : x == n with
    | true =>
      rw [hx] at hl; cases hl
      have : x = n := by simpa using hx
      subst this
      rw [if_pos hk]
      have key : ∀ (r : List (Str × Value)) (m : Str → Option Value), x ∉ r.map (·.1) → bindL kindOf r m x = m x := by
        intro r
        induction r with
        | nil => intro m _; rfl
        | cons p r ih =>
          intro m hp
          obtain ⟨n', w'⟩ := p
          rw [List.map_cons, List.mem_cons, not_or] at hp
          unfold bindL
          rw [ih _ hp.2]
          split
          · simp [hp.1]
          · rfl
      rw [key r _ hn.1]; simp
    | false => rw [hx] at hl; exact bindL_get r _ x v hn.2 hl hk
theorem bindC_get {kindOf : Str → Option NameKind} : ∀ (binds : List (Str × Value)) (m : Str → Option Value) (x : Str) (v : Value), (binds.map (·.1)).Nodup → binds.lookup x = some v → kindOf x ≠ some .local → bindC kindOf binds m x = some v
  | (n, w) :: r, m, x, v, hn, hl, hk => by
    rw [List.map_cons, List.nodup_cons] at hn
    rw [List.lookup_cons] at hl
    unfold bindC
    cases hx : x == n with
    | true =>
      rw [hx] at hl; cases hl
      have : x = n := by simpa using hx
      subst this
      rw [if_neg hk]
      have key : ∀ (r : List (Str × Value)) (m : Str → Option Value), x ∉ r.map (·.1) → bindC kindOf r m x = m x := by
        intro r
        induction r with
        | nil => intro m _; rfl
        | cons p r ih =>
          intro m hp
          obtain ⟨n', w'⟩ := p
          rw [List.map_cons, List.mem_cons, not_or] at hp
          unfold bindC
          rw [ih _ hp.2]
          split
          · rfl
          · simp [hp.1]
      rw [key r _ hn.1]; simp
    | false => rw [hx] at hl; exact bindC_get r _ x v hn.2 hl hk

theorem FR.start {F : Fn} {params : Arguments} {body : List Stmt} {scope : Scope} {f q : Str} {pm code doc : Value} {a : Addr} {args : List PV} {vals : List Value} (ck : FnChk F params body scope) (hlen : args.length = F.nargs) (R : C.Rel σ g s.heap) (S : StkC C g s.heap) (hv : C.VRs g s.heap args vals) {s1 : Shared}
    (X : InCallC s (callEnvC (methDef f q params body scope pm code doc) s.heap.objs.size a).locals (bindL (callEnvC (methDef f q params body scope pm code doc) s.heap.objs.size a).kindOf ((params.args.map (·.arg)).zip vals) fun _ => none) (callEnvC (methDef f q params body scope pm code doc) s.heap.objs.size a).cells
        (bindC (callEnvC (methDef f q params body scope pm code doc) s.heap.objs.size a).kindOf ((params.args.map (·.arg)).zip vals) fun _ => none) s1) :
    FR (C.push (callEnvC (methDef f q params body scope pm code doc) s.heap.objs.size a)) scope.names (vmOf (ownNames scope.names)) (callEnvC (methDef f q params body scope pm code doc) s.heap.objs.size a) (args ++ List.replicate (F.slots - F.nargs) .undef) g s1.heap := by
  have kept : Kept g s.heap s1.heap := .of_all X.toInCall.keep
  have hown := own_nodup ck.nodup
  have hpn : (params.args.map (·.arg)).Nodup := by rw [← ck.take]; exact hown.sublist (List.take_sublist ..)
  have hvl : vals.length = params.args.length := by rw [← hv.length, hlen, ck.len]
  have hzn : (((params.args.map (·.arg)).zip vals).map (·.1)).Nodup := by
    rw [show (fun (p : Str × Value) => p.1) = Prod.fst from rfl, List.map_fst_zip (by simp [hvl])]; exact hpn
  -- a bound slot is a parameter
  have par : ∀ x i v, (vmOf (ownNames scope.names)).lookup x = some i → (args ++ List.replicate (F.slots - F.nargs) .undef)[i]? = some v → v ≠ .undef → ∃ y, ((params.args.map (·.arg)).zip vals).lookup x = some y ∧ C.VR g s1.heap v y := by
    intro x i v h1 h2 h3
    have h4 := vmOf_get h1
    by_cases hi : i < args.length
    · rw [List.getElem?_append_left hi] at h2
      refine byC fun hZ => ?_
      obtain ⟨y, h5, h6⟩ := hv.get h2
      refine hZ ?_; clear hZ
      have h7 : (params.args.map (·.arg))[i]? = some x := by rw [← ck.take, List.getElem?_take_of_lt (by exact om314 hlen hi)]; exact h4
      exact ⟨y, zip_lookup_some _ _ i x y hpn h7 h5, VR_kept (C := C) kept h6⟩
    · rw [List.getElem?_append_right (by exact om3 hi)] at h2
      have := List.mem_of_getElem? h2
      exact absurd (List.eq_of_mem_replicate this) h3
  have fresh : ∀ b, s.heap.objs.size ≤ b → b ∉ g.μ ∧ ¬ g.Φ b := fun b hb => R.fresh (get?_le hb)
  refine ⟨ck.kind, rfl, rfl, rfl, fun x y i => lookup_inj (vmOf_nodup _), ⟨_, X.toInCall.ns, fun x i v h1 h2 h3 h4 => ?_⟩, fun x i h1 h2 => ?_, fresh _ X.toInCall.fresh, fun x cc hc => fresh cc ?_, fun x cc hc => ⟨_, X.cell x cc hc⟩, fun x y cc h1 h2 => ?_, ⟨⟨_, rfl, rfl⟩, fun L hL hne => ?_⟩⟩
  · obtain ⟨y, h5, h6⟩ := par x i v h1 h3 h4
    exact ⟨y, bindL_get _ _ x y hzn h5 h2, h6⟩
  · have hk : scope.names.lookup x = some .cell := by
      cases hq : scope.names.lookup x with
      | none => rw [hq] at h2; cases h2
      | some k =>
        rw [hq] at h2
        rcases ck.kinds _ (lookup_mem_pair hq) with e | e | e <;> (simp only at e; subst e; first | rfl | cases h2)
    obtain ⟨cc, hc⟩ := Option.isSome_iff_exists.mp (PySem.W.cellsFrom_some (x := x) scope.names (s.heap.objs.size + 1) [] (.inl hk))
    refine ⟨cc, _, hc, X.cell x cc hc, fun v h3 h4 => ?_⟩
    refine byC fun hZ => ?_
    obtain ⟨y, h5, h6⟩ := par x i v h1 h3 h4
    refine hZ ?_; clear hZ
    refine ⟨y, bindC_get _ _ x y hzn h5 ?_, h6⟩
    show scope.names.lookup x ≠ some .local
    rw [hk]; intro q; cases q
  · have := X.above x cc (mem_of_lookup hc)
    have h2 := X.toInCall.fresh
    exact Nat.le_of_lt (Nat.lt_of_le_of_lt h2 this)
  · exact name_of_addr X.apart (mem_of_lookup h1) (mem_of_lookup h2)
  · rw [frs_push rfl] at hL
    rcases List.mem_cons.mp hL with q | hL
    · exact absurd q hne
    · refine byC fun hZ => ?_
      obtain ⟨a1, a2, o, a3, a4⟩ := S L hL
      refine hZ ?_; clear hZ
      refine ⟨fun x hx => ?_, a1, a2, o, X.toInCall.keep L o a3, a4⟩
      have h1 := X.above x L (mem_of_lookup hx)
      have h2 := X.toInCall.fresh
      exact absurd (Heap.lt_size a3) (Nat.not_lt_of_le (Nat.le_of_lt (Nat.lt_of_le_of_lt h2 h1)))
end Mine

set_option autoImplicit false
set_option backward.match.sparseCases true
set_option linter.unusedVariables false
namespace Mine
open PySem PyProof.Rows PySem.SeqAt PySem.Calls PySem.W

variable {C : Fix} {c : Cx} {σ σ' : AH} {g g' : Cfg} {h h' : Heap} {s s' : Shared} {own : Addr → Prop} {A : Around} {d : Nat} {nm : NM} {vm : VM} {env : Env} {ρ : List PV}
  {Q : Value → Shared → Prop} {E : Value → Shared → Prop}

theorem Fix.OK.push (K : C.OK) : (C.push env).OK := ⟨K.g, K.b, K.nolimit, K.nodigits, K.builtins, K.seer, K.tree⟩
theorem Fix.Rel.push (R : C.Rel σ g h) : (C.push env).Rel σ g h := ⟨R.rel, R.bas, R.sys⟩
theorem Fix.Rel.pop (R : (C.push env).Rel σ g h) : C.Rel σ g h := ⟨R.rel, R.bas, R.sys⟩
theorem AOK.call {L : Addr} (hA : AOK C A (d + 1)) (hg : env.scope.isGenerator = false) (hc : env.scope.isCoroutine = false) (hb : env.builtins = builtinsNs) (hm : env.globals = mainGlobals) (hk : env.scope.kind = .function) (hL : env.frame = some L) : AOK (C.push env) (A.deeper env) d := by
  refine ⟨hA.hand, ?_, ?_, ?_, ?_, fun e he => ?_⟩
  · have := hA.depth
    show A.depth + 1 + 2 * d < 890
    exact om323 this
  · have := hA.units
    show A.units + 3 + 12 * d + 700 < cLine
    exact om322 this
  · obtain ⟨e0, l, h1, _⟩ := hA.fr
    exact ⟨env, e0 :: l, by show A.frames.map (env :: ·) = _; rw [h1]; rfl, hg, hc, hb, hm⟩
  · show A.frames.map (env :: ·) = _; rw [hA.fs]; rfl
  · rcases List.mem_cons.mp he with rfl | he
    · exact ⟨(by rw [hk]; intro q; cases q), L, hL⟩
    · exact hA.fk e he

theorem AOK.call2 {L : Addr} {a : Addr} {ys : List Value} (hA : AOK C A (d + 1)) (hg : env.scope.isGenerator = false) (hc : env.scope.isCoroutine = false) (hb : env.builtins = builtinsNs) (hm : env.globals = mainGlobals) (hk : env.scope.kind = .function) (hL : env.frame = some L) : AOK (C.push env) ((A.under (.builtin "type.__call__" ⟨.ref a :: ys, []⟩)).deeper env) d := by
  refine ⟨hA.hand, ?_, ?_, ?_, ?_, fun e he => ?_⟩
  · have := hA.depth
    show A.depth + 1 + 1 + 2 * d < 890
    exact om321 this
  · have := hA.units
    show A.units + 1 + 3 + 12 * d + 700 < cLine
    exact om320 this
  · obtain ⟨e0, l, h1, _⟩ := hA.fr
    exact ⟨env, e0 :: l, by show A.frames.map (env :: ·) = _; rw [h1]; rfl, hg, hc, hb, hm⟩
  · show A.frames.map (env :: ·) = _; rw [hA.fs]; rfl
  · rcases List.mem_cons.mp he with rfl | he
    · exact ⟨(by rw [hk]; intro q; cases q), L, hL⟩
    · exact hA.fk e he

theorem fn_call' (K : C.OK) (X : ∀ env, CxOK (C.push env) c d) {F : Fn} {a : Addr} (hF : FnAt C a F) {args : List PV} {xs : List Value} (hdep : A.depth < 1000)
    (hA : ∀ env L, env.scope.isGenerator = false → env.scope.isCoroutine = false → env.builtins = builtinsNs → env.globals = mainGlobals → env.scope.kind = .function → env.frame = some L → AOK (C.push env) (A.deeper env) d) (R : C.Rel σ g s.heap) (S : StkC C g s.heap) (hv : C.VRs g s.heap args xs)
    (hp : PostC C g s (runFn c F args σ) Q E) : wpAny (model C.prog C.w) A (call (.ref a) xs) Q E s := by
  refine byC fun hZ => ?_
  obtain ⟨o, f, q, params, body, scope, pm, code, doc, h2, h3, h4, ck⟩ := hF
  refine hZ ?_; clear hZ
  unfold runFn at hp
  split at hp
  · rename_i hlen
    have hvl : xs.length = params.args.length := by rw [← hv.length, hlen, ck.len]
    have hown := own_nodup ck.nodup
    have hpn : (params.args.map (·.arg)).Nodup := by rw [← ck.take]; exact hown.sublist (List.take_sublist ..)
    refine wpAny_call (codeAny_call_cells (fd := methDef f q params body scope pm code doc) (binds := (params.args.map (·.arg)).zip xs) ?_ (R.rel.base _ _ h2) h3 (K.nolimit.keeps R.rel.base) (h4.keeps R.rel.base) rfl (bind_plain ck.p1 ck.p2 ck.p3 ck.p4 hpn hvl) rfl ?_ ?_ ck.cor ck.gen ck.kind)
    · exact hdep
    · intro y hy
      have hm : y.1 ∈ ownNames scope.names := by
        have h5 : y.1 ∈ params.args.map (·.arg) := (List.of_mem_zip (show (y.1, y.2) ∈ _ from hy)).1
        rw [← ck.take] at h5; exact List.mem_of_mem_take h5
      have hk := own_kind ck.nodup hm
      cases hq : scope.names.lookup y.1 with
      | none => rw [hq] at hk; cases hk
      | some k =>
        rw [hq] at hk
        cases k <;> first | cases hk | skip
        · exact .inl hq
        · exact .inr ⟨hq, PySem.W.cellsFrom_some scope.names _ [] (.inl hq)⟩
    · intro s1 IC
      have F1 := FR.start ck hlen R S hv IC
      have k1 := IC.toInCall.keep
      refine byC fun hZ => ?_
      obtain ⟨hh, tk, hs1⟩ := IC.toInCall.same
      refine hZ ?_; clear hZ
      have e1 : Ext noOwn g s g s1 := by rw [hs1]; rw [hs1] at k1; exact Ext.all k1
      have R1 : C.Rel σ g s1.heap := R.kept (.of_all k1)
      have hA1 := hA (callEnvC (methDef f q params body scope pm code doc) s.heap.objs.size a) s.heap.objs.size ck.gen ck.cor rfl rfl ck.kind rfl
      have hnone : ∀ b, ownOf (callEnvC (methDef f q params body scope pm code doc) s.heap.objs.size a) b → s.heap.get? b = none := fun b hb => by
        rcases hb with rfl | ⟨x, hx⟩
        · exact get?_le IC.toInCall.fresh
        · exact get?_le (Nat.le_of_lt (Nat.lt_of_le_of_lt IC.toInCall.fresh (IC.above x b (mem_of_lookup hx))))
      have hp : PostC C g s (left F.keep σ (execs c F.body (args ++ List.replicate (F.slots - F.nargs) .undef) σ)) Q E := hp
      cases hr : execs c F.body (args ++ List.replicate (F.slots - F.nargs) .undef) σ with
      | bad => rw [hr] at hp; exact hp.elim
      | exc k σ' =>
        rw [hr] at hp
        unfold left at hp
        simp only at hp
        split at hp
        · rename_i ht
          refine sndSs K.push (X _) F.body scope.names _ body _ _ σ g s1 _ _ _ ck.chk F1 R1.push hA1 rfl ?_
          rw [hr]
          rintro s2 e ⟨g2, e2, R2, y2, S2⟩
          have e3 : Ext noOwn g s g2 s2 := Ext.drop e1 e2 hnone
          refine leave_thrown (L := s.heap.objs.size) hA1.fs hA1.fk rfl (get?_size _) e3 R2.pop S y2 (fun b q => e1.live b q) fun h' a1 a2 a3 => ?_
          exact hp _ e ⟨g2.cool σ.length, cool_ext R a2 a1, cool_rel R a2 a1 ht, a3.mono (fun _ q => q) (fun b q => .inl (List.mem_of_mem_take q)) fun b q => q.elim .inr fun q => .inl (List.mem_of_mem_drop q)⟩
        · exact hp.elim
      | ok r σ' =>
        rw [hr] at hp
        obtain ⟨fl, ρ'⟩ := r
        refine sndSs K.push (X _) F.body scope.names _ body _ _ σ g s1 _ _ _ ck.chk F1 R1.push hA1 rfl (PostX.mk hr fun g2 s2 fw e2 R2 F2 hf => ?_)
        have R2 := R2.pop
        have e3 : Ext noOwn g s g2 s2 := Ext.drop e1 e2 hnone
        unfold left at hp
        simp only at hp
        have fin : ∀ x, C.VR g2 s2.heap fl.out x → Q x s2 := by
          intro x hvx
          split at hp
          · exact hp g2 s2 x e3 R2 hvx
          · split at hp
            · rename_i ht
              cases hz : frz σ.length σ' 3 fl.out with
              | none => rw [hz] at hp; exact hp.elim
              | some v' =>
                rw [hz] at hp
                exact hp (g2.cool σ.length) s2 x (cool_ext R R2 e3) (cool_rel R R2 e3 ht) (frz_sound R2 3 hz hvx)
            · exact hp.elim
        cases fl with
        | ret v => obtain ⟨x, rfl, q⟩ := hf; exact fin x q
        | next => cases hf; exact fin .none .none
        | brk => cases hf; exact fin .none .none
        | cont => cases hf; exact fin .none .none
  · exact hp.elim

structure TopOK (C : Fix) (G : Glob) : Prop where
  ok : C.OK
  gl : ∀ x v, G.const x = some v → ∃ y, C.mg x = some y ∧ C.VR C.g0 C.B v y
  fn : ∀ f F, noDot f = true → G.fn f = some F → FnOK C f F
  bi : ∀ w ∈ biWords, C.mg w = none
  exc : ∀ k I, C.exc k = some I → G.isa k "!" = true → ExcAt C k I
  isa : IsaAt C G.isa
  exk : ∀ k, G.isa k k = true → ∃ I, C.exc k = some I
  atr : ∀ f, G.atr f = true → ∃ F, G.fn f = some F
theorem TopOK.push {G : Glob} (T : TopOK C G) : TopOK (C.push env) G := ⟨T.ok.push, T.gl, T.fn, T.bi, T.exc, T.isa, T.exk, T.atr⟩
theorem TopOK.fns {G : Glob} (T : TopOK C G) {f : Str} (hd : noDot f = true) (ha : G.atr f = true) : ∃ a o fd, C.mg f = some (.ref a) ∧ C.B.get? a = some o ∧ o.data = .func fd := by
  refine byC fun hZ => ?_
  obtain ⟨F, hF⟩ := T.atr f ha
  obtain ⟨a, h1, o, _, _, _, _, _, _, _, _, h2, h3, _⟩ := T.fn f F hd hF
  refine hZ ?_; clear hZ
  exact ⟨a, o, _, h1, h2, h3⟩

theorem callD_ok {G : Glob} : ∀ (d : Nat) (C : Fix), TopOK C G → CxOK C ⟨G.const, callD G d, G.isa, G.atr⟩ d
  | 0, C, T => ⟨T.gl, fun f args σ _ h => absurd rfl h, fun f hd ha => T.fns hd ha, fun f a args xs σ g s A Q E _ _ _ _ _ _ hp => hp.elim, T.bi, T.exc, T.isa, T.exk⟩
  | d + 1, C, T => by
    have ih := fun env => callD_ok (G := G) d (C.push env) T.push
    have some_of : ∀ {f : Str} {args : List PV} {σ : AH}, callD G (d + 1) f args σ ≠ .bad → ∃ F, G.fn f = some F := fun {f args σ} hb => by
      cases hF : G.fn f with
      | none => exact absurd (show callD G (d + 1) f args σ = .bad by rw [callD_c, hF]) hb
      | some F => exact ⟨F, rfl⟩
    refine ⟨T.gl, fun f args σ hd hb => ?_, fun f hd ha => T.fns hd ha, fun f a args xs σ g s A Q E hd ha hA R hv S hp => ?_, T.bi, T.exc, T.isa, T.exk⟩
    · refine byC fun hZ => ?_
      obtain ⟨F, hF⟩ := some_of hb
      obtain ⟨a, h1, o, _, _, _, _, _, _, _, _, h2, h3, _⟩ := T.fn f F hd hF
      refine hZ ?_; clear hZ
      exact ⟨a, o, _, h1, h2, h3⟩
    · have hp : PostC C g s (callD G (d + 1) f args σ) Q E := hp
      have hnb : callD G (d + 1) f args σ ≠ .bad := fun q => by rw [q] at hp; exact hp
      refine byC fun hZ => ?_
      obtain ⟨F, hF⟩ := some_of hnb
      obtain ⟨a', h1, hF'⟩ := T.fn f F hd hF
      refine hZ ?_; clear hZ
      cases ha.symm.trans h1
      rw [callD_c, hF] at hp
      exact fn_call' T.ok ih hF' (by have := hA.depth; exact om319 this) (fun env L h1 h2 h3 h4 h5 h6 => hA.call h1 h2 h3 h4 h5 h6) R S hv hp

theorem base_rel {B : Heap} (hB : C.B = B) (K : C.OK) : C.Rel [] C.g0 B := by
  subst hB
  refine ⟨{ len := rfl, nodup := List.nodup_nil, disj := fun a ha => (nomatch ha), lkμ := fun a ha => ha.elim, live := fun a ha => ha, base := fun b o e => e, baseμ := fun a ha => (nomatch ha), objs := fun i o a h1 _ => by simp at h1 }, fun b hb => hb, ?_⟩
  obtain ⟨mm, h1, _⟩ := K.seer.mods
  obtain ⟨o, ho⟩ := Heap.Ns.live h1
  exact isSome_of ho

theorem well_ints {p : Params} {B : Heap} {x : Value} {ns : List Int} (h : Well p B x (ofPy (.list (ns.map .int)))) (hB : C.B = B) : C.VR C.g0 C.B (.lst (ns.map .int)) x := by
  subst hB
  have e : ofPy (.list (ns.map .int)) = .list (ns.map .int) := by
    have key : ∀ ns : List Int, ofPys (ns.map PyData.int) = ns.map WData.int := by
      intro ns
      induction ns with
      | nil => rfl
      | cons n ns ih => simp only [List.map_cons, ofPys, ofPy, ih]
    simp only [ofPy, key]
  rw [e] at h
  cases h with
  | @list a vs xs h1 h2 =>
    refine .lst (isSome_of h1) ⟨0, h1⟩ ?_
    have key : ∀ (ns : List Int) (vs : List Value), WellAll p C.B vs (ns.map WData.int) → C.VRs C.g0 C.B (ns.map PV.int) vs := by
      intro ns
      induction ns with
      | nil => intro vs h; cases h; exact .nil
      | cons n ns ih =>
        intro vs h
        cases h with
        | cons a b => cases a; exact .cons (.int ..) (ih _ b)
    simpa using key ns vs h2

theorem law_head {B : Heap} (hB : C.B = B) {G : Glob} (T : TopOK C G) (hfs : C.fs = []) {F : Fn} {f : Str} {D : Nat} (hD : D ≤ 250) (hd : noDot f = true)
    {a : Addr} (ha : C.mg f = some (.ref a)) (hF : G.fn f = some F) {p : Params} {x : Value} {ns : List Int} (hs : s.heap = B) (hw : Well p B x (ofPy (.list (ns.map .int))))
    (hrun : callD G (D + 1) f [.lst (ns.map .int)] [] = .ok (.bool true) [])
    (hQ : ∀ s', (∀ b o, B.get? b = some o → s'.heap.get? b = some o) → s'.os = s.os → s'.gens = s.gens → Q (.bool true) s') : wpAny (model C.prog C.w) callerA (call (.ref a) [x]) Q E s := by
  have R : C.Rel [] C.g0 s.heap := by rw [hs]; exact base_rel hB T.ok
  have hv : C.VRs C.g0 s.heap [.lst (ns.map .int)] [x] := by
    have := well_ints hw hB
    rw [hB] at this
    rw [hs]; exact .cons this .nil
  have hr : runFn ⟨G.const, callD G D, G.isa, G.atr⟩ F [.lst (ns.map .int)] [] = .ok (.bool true) [] := by
    rw [callD_c, hF] at hrun; exact hrun
  refine byC fun hZ => ?_
  obtain ⟨a', ha', hF'⟩ := T.fn f F hd hF
  refine hZ ?_; clear hZ
  cases ha.symm.trans ha'
  refine fn_call' T.ok (fun env => callD_ok D _ T.push) hF' (by decide) (fun env L h1 h2 h3 h4 h5 h6 => ⟨rfl, ?_, ?_, ⟨env, [], rfl, h1, h2, h3, h4⟩, by show some [env] = some (env :: C.fs); rw [hfs], fun e he => ?_⟩) R (fun L hL => by unfold frs at hL; rw [hfs] at hL; cases hL) hv (by
    rw [hr]
    intro g' s' y e1 R1 v1
    cases v1
    exact hQ s' (fun b o e => R1.rel.base b o (by rw [hB]; exact e)) e1.os e1.gens)
  · show 1 + claimMargin + 1 + 2 * D < 890
    have : claimMargin = 300 := rfl
    exact om317 hD this
  · show 4 + 3 + 12 * D + 700 < cLine
    have : cLine = 9900 := rfl
    exact om316 hD this
  · have he : e ∈ env :: C.fs := he
    rw [hfs] at he
    rcases List.mem_cons.mp he with rfl | he
    · exact ⟨(by rw [h5]; intro q; cases q), L, h6⟩
    · cases he

noncomputable def tblChk (rs : List DefRec) (tbl : List (Str × Fn)) : Bool := tbl.all fun p => rs.any fun d => d.name == p.1 && fnChk p.2 d.params d.body d.scope
noncomputable def biChk (view : Program) (loose : List Str) : Bool := biWords.all fun w => !startupNames.contains w && !loose.contains w && !((recsOf view).map (·.name)).contains w && !((litsOf view).map (·.1)).contains w && !((clssOf view loose).map (·.name)).contains w

section
variable {prog : Program} {w : World} {view : Program} {loose : List Str} {mean : ExcName → Option Value} {mg mb : Str → Option Value} {B : Heap}
theorem ok_of_top {fs : List Env} {exc : Str → Option Addr} (T : Top view loose mean mg mb B) (ht : prog.given.tree = none) (hi : importsNone view = true) : (Fix.mk prog w B mg mb fs exc).OK :=
  ⟨T.g, T.b, T.nolimit, T.nodigits, T.builtins, T.seer hi, ht⟩
theorem bi_of_top (T : Top view loose mean mg mb B) (hc : biChk view loose = true) : ∀ x ∈ biWords, mg x = none := fun x hx => by
  have h1 := List.all_eq_true.mp hc x hx
  simp only [Bool.and_eq_true, Bool.not_eq_true'] at h1
  refine byC fun hZ => ?_
  obtain ⟨⟨⟨⟨h1, h2⟩, h3⟩, h4⟩, h5⟩ := h1
  refine hZ ?_; clear hZ
  have nc : ∀ {l : List Str}, l.contains x = false → x ∉ l := fun h q => by rw [List.contains_iff_mem.mpr q] at h; cases h
  exact T.free x (nc h1) (nc h2) (nc h3) (nc h4) (nc h5)
end

theorem post_true (l : OpenLaw) (args ds : List WData) : l.row.claim.post args (.bool true) ds = true := by
  show (WShape.has [] (.bool true) .bool && WTm.holds [] (.eq .res (.lit (.bool true))) _) = true
  have h1 : WShape.has [] (.bool true) .bool = true := by first | rfl | decide +kernel
  rw [h1, Bool.true_and]
  unfold WTm.holds
  rw [WTm.value]
  simp only [WTm.value]
  first | rfl | decide +kernel | simp [same]
end Mine

set_option autoImplicit false
set_option maxRecDepth 100000
namespace Mine
open PySem PySem.W PySem.Calls PyProof.Rows PySem.Builtin PySem.Builtin.ObjectAttr PySem.Builtin.Getset_descriptor

section
variable {prog : Program} {w : World} {A : Around} {E : Value → Shared → Prop} {s : Shared} {K : Frag} {x D : Addr}
noncomputable def gaOk (K : Frag) (I : Addr) : Bool := (findIn K (.ref I) "__getattribute__" == some (some (.builtin "BaseException.__getattribute__"))) && (findIn K (.ref I) "__getattr__" == some none) && (subIn K (.ref I) (.type "BaseException") == some true)
noncomputable def selfOk (K : Frag) (I : Addr) : Bool := gaOk K I && (clsIn K I).isSome && (findIn K (.ref I) "__class__" == some (some (.builtin "object.__class__"))) && (mroIn K I (.type "object") == some true)

theorem exc_find {M : Model} {h : Heap} (X : K.In h) (ha : findIn K (.ref D) "__class__" = some (some (.builtin "object.__class__")))
    (hn : specialIn K (.builtin "object.__class__") "__get__" = some (some (.builtin "getset_descriptor.__get__"))) (ht : takesIn K (.builtin "object.__class__") = some true) :
    Looks M h (find (.ref x) (.ref D) "__class__") (.bind (.builtin "getset_descriptor.__get__") (.builtin "object.__class__")) := by
  have L1 := looks_findIn (M := M) X ha
  have L2 : Looks M h (getOf (some (.builtin "object.__class__"))) (some (.builtin "getset_descriptor.__get__")) := looks_specialIn X hn
  have L3 := looks_takesIn (M := M) X ht
  exact L1.andThen (L2.andThen ((show Looks M h (dataDescriptor? (some (.builtin "object.__class__")) (some (.builtin "getset_descriptor.__get__"))) (some (.builtin "getset_descriptor.__get__", .builtin "object.__class__")) from L3.andThen .now).andThen (Looks.tag .now)))

theorem exc_get {R : Result → Shared → Prop} {tp : Value} (X : K.In s.heap) (L0 : Looks (model prog w) s.heap (typeOf (.ref x)) (.ref D)) (hm : mroIn K D (.type "object") = some true)
    (h : R (.ok (.ret (.ref D))) s) : codeAny (model prog w) A (.call (.builtin "getset_descriptor.__get__") ⟨[.builtin "object.__class__", .ref x, tp], []⟩) R s := by
  refine byC fun hZ => ?_
  obtain ⟨hh, g, dr, t, os⟩ := s
  refine hZ ?_; clear hZ
  have L1 := looks_mroIn (M := model prog w) X hm
  refine codeAny_call_builtin KF.slot_gs.plain KF.entry_gs (KF.slot_gs.check _ _ _ _ _ _ _ _ KF.type_class (KF.args_gs _ _ _) ?_)
  unfold Builtin.«getset_descriptor.__get__» descrGet
  rw [dga_obj]
  refine wpAny_bind (wpAny_pure ?_)
  unfold descrGetter descrCheckInstance descrNameAndClass isInstance
  simp only [KF.owner_class]
  repeat lk
  refine ⟨Code.quiet_builtin _ (by decide +kernel), codeAny_builtin KF.entry_class ?_⟩
  unfold Builtin.«object.__class__» shownTypeOf
  repeat lk
  exact h

theorem exc_class {Q : Option Value → Shared → Prop} (X : K.In s.heap) (L0 : Looks (model prog w) s.heap (typeOf (.ref x)) (.ref D)) (hs : selfOk K D = true)
    (hn : specialIn K (.builtin "object.__class__") "__get__" = some (some (.builtin "getset_descriptor.__get__"))) (ht : takesIn K (.builtin "object.__class__") = some true)
    (h : Q (some (.ref D)) { s with toks := s.toks + 1 }) : wpAny (model prog w) A (getAttr? (.ref x) "__class__") Q E s := by
  refine byC fun hZ => ?_
  obtain ⟨h123, h4⟩ := Bool.and_eq_true_iff.mp hs
  obtain ⟨h12, h3⟩ := Bool.and_eq_true_iff.mp h123
  obtain ⟨h1, h2⟩ := Bool.and_eq_true_iff.mp h12
  obtain ⟨g12, g3⟩ := Bool.and_eq_true_iff.mp h1
  obtain ⟨g1, g2⟩ := Bool.and_eq_true_iff.mp g12
  have g1 := beq_iff_eq.mp g1
  have g2 := beq_iff_eq.mp g2
  have g3 := beq_iff_eq.mp g3
  have h3 := beq_iff_eq.mp h3
  have h4 := beq_iff_eq.mp h4
  obtain ⟨hh, g, d, t, os⟩ := s
  refine hZ ?_; clear hZ
  have L1 := looks_findIn (M := model prog w) X g1
  have L2 := exc_find (M := model prog w) (x := x) X h3 hn ht
  have L3 := looks_findIn (M := model prog w) X g2
  have L4 : Looks (model prog w) hh (isSubtype (.ref D) (.type "BaseException")) true := looks_subIn X g3
  have hx3 : (Value.builtin "BaseException.__getattribute__" == Value.builtin "object.__getattribute__") = false := by decide +kernel
  have hx2 : (onTheHeap (Value.ref D) && Value.builtin "BaseException.__getattribute__" == Value.builtin "object.__getattribute__") = false := by rw [hx3]; rfl
  have f3 := PySem.F.excAttr_ValueError.ga.bind (.ref x)
  unfold getAttr? getAttrBy? getAttrBy
  refine wpAny_bind (wpAny_mkText (wpAny_bind (wpAny_attempt (wpAny_holding (wpAny_bind (L0.at (wpAny_bind (L1.at ?_))))))))
  simp only [hx2, Bool.false_eq_true, if_false]
  unfold getAttrByItsOwn hookBefore
  refine wpAny_bind ?_
  show wpAny _ _ (typeLookup (.ref D) "__getattr__") _ _ _
  refine L3.at ?_
  refine wpAny_bind (wpAny_attempt (wpAny_holding ?_))
  show wpAny _ _ (boundAndCalled (.builtin "BaseException.__getattribute__") (.ref x) _) _ _ _
  unfold boundAndCalled
  rw [f3]
  refine wpAny_bind (wpAny_pure ?_)
  refine wpAny_call (codeAny_call_builtin PySem.F.excAttr_ValueError.ga.plain PySem.F.entry_bexc_ga ?_)
  have hk : builtinKind "BaseException.__getattribute__" = some .slot := by decide +kernel
  have hsplit : splitId "BaseException.__getattribute__" = some ("BaseException", "__getattribute__") := by decide +kernel
  have ha := PySem.F.args_bexc_ga (.ref x) (.str "__class__" t)
  have LI : Looks (model prog w) hh (isInstance (.ref x) (.type "BaseException")) true := L0.andThen L4
  simp only [checkBuiltinCall, hk, hsplit]
  refine wpAny_bind ?_
  refine LI.at ?_
  simp only [Bool.not_true, Bool.false_eq_true, if_false]
  refine wpAny_of_eq (a := ()) ha ?_
  show wpAny (model prog w) A.in1 (Builtin.«object.__getattribute__» ⟨[.ref x, .str "__class__" t], []⟩) _ _ _
  unfold Builtin.«object.__getattribute__»
  refine wpAny_bind (wpAny_of_eq (a := (Value.ref x, [Value.str "__class__" t])) (by kernel_rfl) ?_)
  refine wpAny_bind (wpAny_of_eq (a := ("__class__" : Str)) rfl ?_)
  refine wpAny_bind (L0.at (wpAny_bind (L2.at ?_)))
  show wpAny (model prog w) A.in1 (bindTo (.builtin "getset_descriptor.__get__") (.builtin "object.__class__") (.ref x) (.ref D)) _ _ _
  unfold bindTo
  (refine wpAny_bind (wpAny_holding (wpAny_call (exc_get (s := ⟨hh, g, d, t + 1, os⟩) X L0 h4 ?_))); refine wpAny_pure ?_; show wpAny _ _ (handedOut (.ref D)) _ _ _; exact wpAny_pure (wpAny_pure h))

theorem exc_kitx (hs : selfOk K D = true) (hn : specialIn K (.builtin "object.__class__") "__get__" = some (some (.builtin "getset_descriptor.__get__"))) (ht : takesIn K (.builtin "object.__class__") = some true) :
    KitX K (.ref x) (.ref D) (fun h => ∃ o, h.get? x = some o ∧ o.cls = .ref D) where
  ty := fun M h _ ⟨o, h1, h2⟩ => h2 ▸ (Looks.ld h1).andThen .now
  it := fun M h X _ => by
    refine byC fun hZ => ?_
    obtain ⟨h123, _⟩ := Bool.and_eq_true_iff.mp hs
    obtain ⟨h12, _⟩ := Bool.and_eq_true_iff.mp h123
    obtain ⟨_, h2⟩ := Bool.and_eq_true_iff.mp h12
    obtain ⟨cd, hc⟩ := Option.isSome_iff_exists.mp h2
    refine hZ ?_; clear hZ
    unfold clsIn at hc
    split at hc
    · rename_i ho
      intro A' Q' E' s' k q
      unfold isType loadHead
      exact wpAny_bind (wpAny_loadPart (k _ _ (X _ _ ho)) (wpAny_pure q))
    · cases hc
  ne := fun h tp dd its n sl X htp => by
    refine byC fun hZ => ?_
    obtain ⟨h123, _⟩ := Bool.and_eq_true_iff.mp hs
    obtain ⟨h12, _⟩ := Bool.and_eq_true_iff.mp h123
    obtain ⟨_, h2⟩ := Bool.and_eq_true_iff.mp h12
    obtain ⟨cd, hc⟩ := Option.isSome_iff_exists.mp h2
    refine hZ ?_; clear hZ
    refine Bool.eq_false_iff.mpr fun q => ?_
    have e : D = tp := Value.ref.inj (beq_iff_eq.mp q)
    subst e
    unfold clsIn at hc
    split at hc
    · rename_i ho
      have z := (X _ _ ho).symm.trans htp
      cases z
    · cases hc
  ca := fun X p k => exc_class X (let ⟨o, h1, h2⟩ := p; h2 ▸ (Looks.ld h1).andThen .now) hs hn ht k
end
end Mine

set_option autoImplicit false
set_option backward.match.sparseCases true
set_option linter.unusedVariables false
namespace Mine
open PySem PyProof.Rows PySem.SeqAt PySem.Calls PySem.W

noncomputable def keyOf : Value → Option Str
  | .str x _ => some x
  | _ => none
noncomputable def numOf : Value → Option Int
  | .int i _ => some i
  | _ => none
set_option genInjectivity true
structure DSeen where
  cls : Value
  dict : Option Addr
  slots : Nat
  apart : Bool
  es : List (Int × Option Str × Option Int)
noncomputable def dictSeen (h : Heap) (x : Str) : Option DSeen := match h.nsMap mainGlobals x with
  | some (.ref a) => match h.get? a with
    | some o => match o.data with
      | .dict es _ => some ⟨o.cls, o.dict, o.slots.size, decide (a ≠ sysModules), es.toList.map fun e => (e.hash, keyOf e.key, numOf e.val)⟩
      | _ => none
    | none => none
  | _ => none
noncomputable def dictGood (w : World) (l : List (Str × Int)) : DSeen := ⟨.type "dict", none, 0, true, l.map fun kv => (hashStr w kv.1, some kv.1, some kv.2)⟩

noncomputable def Named (h : Heap) (x : Str) (v : Value) : Prop := ∃ o es ep, h.get? mainGlobals = some o ∧ o.data = .dict es ep ∧ nsFind es x = some v
theorem Named.of_nsMap {h : Heap} {x : Str} {v : Value} (e : h.nsMap mainGlobals x = some v) : Named h x v := by
  unfold Heap.nsMap at e
  cases ho : h.get? mainGlobals with
  | none => rw [ho] at e; cases e
  | some o =>
    rw [ho] at e
    cases hd : o.data with
    | dict es ep => simp only [hd] at e; exact ⟨o, es, ep, ho, hd, e⟩
    | _ => simp only [hd] at e; cases e
theorem Named.keeps {h h' : Heap} {x : Str} {v : Value} (q : Named h x v) (hk : ∀ b o, h.get? b = some o → h'.get? b = some o) : Named h' x v :=
  let ⟨o, es, ep, h1, h2⟩ := q; ⟨o, es, ep, hk _ _ h1, h2⟩
theorem Named.mg {h : Heap} {x : Str} {v : Value} {mg : Str → Option Value} (q : Named h x v) (hg : h.Ns mainGlobals mg) : mg x = some v := by
  refine byC fun hZ => ?_
  refine byC fun hZ => ?_
  obtain ⟨o, es, ep, h1, h2, h3⟩ := q
  obtain ⟨o', es', ep', k1, k2, _, k3⟩ := hg
  refine hZ ?_; clear hZ
  refine hZ ?_; clear hZ
  cases h1.symm.trans k1
  rw [h2] at k2
  cases k2
  rw [← k3]; exact h3

theorem keyOf_eq {v : Value} {x : Str} (h : keyOf v = some x) : ∃ t, v = .str x t := by cases v <;> first | exact ⟨_, congrArg (Value.str · _) (Option.some.inj h)⟩ | cases h
theorem numOf_eq {v : Value} {x : Int} (h : numOf v = some x) : ∃ t, v = .int x t := by cases v <;> first | exact ⟨_, congrArg (Value.int · _) (Option.some.inj h)⟩ | cases h

noncomputable def DictIs (prog : Program) (w : World) (h : Heap) (x : Str) (l : List (Str × Int)) : Prop := ∃ a kvs, Named h x (.ref a) ∧ a ≠ sysModules ∧ h.DictOf (strKind prog w) a kvs ∧ kvs.map (·.1) = l.map (·.1) ∧ ∀ (i : Nat) k v, kvs[i]? = some (k, v) → ∃ n t, l[i]? = some (k, n) ∧ v = .int n t
theorem dictIs_of {prog : Program} {w : World} {h : Heap} {x : Str} {l : List (Str × Int)} (hn : (l.map (·.1)).Nodup) (e : dictSeen h x = some (dictGood w l)) : DictIs prog w h x l := by
  unfold dictSeen at e
  cases hv : h.nsMap mainGlobals x with
  | none => rw [hv] at e; cases e
  | some v =>
    rw [hv] at e
    cases v with
    | ref a =>
      cases ho : h.get? a with
      | none => simp only [ho] at e; cases e
      | some o =>
        simp only [ho] at e
        cases hd : o.data with
        | dict es ep =>
          simp only [hd, dictGood, Option.some.injEq, DSeen.mk.injEq] at e
          refine byC fun hZ => ?_
          refine byC fun hZ => ?_
          obtain ⟨e1, e2, e3, e4, e5⟩ := e
          refine hZ ?_; clear hZ
          refine hZ ?_; clear hZ
          have key : ∀ (es : List DictEntry) (l : List (Str × Int)), es.map (fun e => (e.hash, keyOf e.key, numOf e.val)) = l.map (fun kv => (hashStr w kv.1, some kv.1, some kv.2)) →
              ∃ kvs : List (Str × Value), (∀ e ∈ es, ∃ k, (strKind prog w).is k e.key = true ∧ e.hash = (strKind prog w).hash k) ∧ Pairs (strKind prog w) es kvs ∧ kvs.map (·.1) = l.map (·.1) ∧ ∀ (i : Nat) k v, kvs[i]? = some (k, v) → ∃ n t, l[i]? = some (k, n) ∧ v = .int n t := by
            intro es
            induction es with
            | nil =>
              intro l hl
              cases l with
              | nil => exact ⟨[], by simp, .nil, rfl, by simp⟩
              | cons => cases hl
            | cons en es ih =>
              intro l hl
              cases l with
              | nil => cases hl
              | cons p l =>
                rw [List.map_cons, List.map_cons, List.cons.injEq] at hl
                refine byC fun hZ => ?_
                refine byC fun hZ => ?_
                obtain ⟨h1, h2⟩ := hl
                obtain ⟨kvs, i1, i2, i3, i4⟩ := ih l h2
                refine hZ ?_; clear hZ
                refine hZ ?_; clear hZ
                simp only [Prod.mk.injEq] at h1
                refine byC fun hZ => ?_
                refine byC fun hZ => ?_
                obtain ⟨q1, q2, q3⟩ := h1
                obtain ⟨t, q2⟩ := keyOf_eq q2
                obtain ⟨u, q3⟩ := numOf_eq q3
                refine hZ ?_; clear hZ
                refine hZ ?_; clear hZ
                refine ⟨(p.1, en.val) :: kvs, ?_, ?_, ?_, ?_⟩
                · intro e he
                  rcases List.mem_cons.mp he with rfl | he
                  · exact ⟨p.1, by rw [q2]; exact strKind_is prog w p.1 t, q1⟩
                  · exact i1 e he
                · exact .cons (by rw [q2]; exact strKind_is prog w p.1 t) rfl i2
                · rw [List.map_cons, List.map_cons, i3]
                · intro i k v hi
                  cases i with
                  | zero => cases hi; exact ⟨p.2, u, rfl, q3⟩
                  | succ i => exact i4 i k v hi
          refine byC fun hZ => ?_
          refine byC fun hZ => ?_
          obtain ⟨kvs, k1, k2, k3, k4⟩ := key es.toList l e5
          refine hZ ?_; clear hZ
          refine hZ ?_; clear hZ
          refine ⟨a, kvs, .of_nsMap hv, of_decide_eq_true e4, ⟨o, es, ep, ho, ⟨e1, e2, Array.eq_empty_of_size_eq_zero e3⟩, hd, fun e he => k1 e (Array.mem_toList_iff.mpr he), k2, by rw [k3]; exact hn⟩, k3, k4⟩
        | _ => simp only [hd] at e; cases e
    | _ => cases e
theorem DictIs.keeps {prog : Program} {w : World} {h h' : Heap} {x : Str} {l : List (Str × Int)} (q : DictIs prog w h x l) (hk : ∀ b o, h.get? b = some o → h'.get? b = some o) : DictIs prog w h' x l := by
  refine byC fun hZ => ?_
  refine byC fun hZ => ?_
  obtain ⟨a, kvs, h1, h2, ⟨o, es, ep, h3, r⟩, h4⟩ := q
  refine hZ ?_; clear hZ
  refine hZ ?_; clear hZ
  exact ⟨a, kvs, h1.keeps hk, h2, ⟨o, es, ep, hk _ _ h3, r⟩, h4⟩
noncomputable def dictPV (l : List (Str × Int)) : PV := .dct (l.map fun kv => (kv.1, .int kv.2))
theorem DictIs.vr {C : Fix} {x : Str} {l : List (Str × Int)} (q : DictIs C.prog C.w C.B x l) (hg : C.B.Ns mainGlobals C.mg) : ∃ y, C.mg x = some y ∧ C.VR C.g0 C.B (dictPV l) y := by
  refine byC fun hZ => ?_
  refine byC fun hZ => ?_
  obtain ⟨a, kvs, h1, h2, h3, h4, h5⟩ := q
  refine hZ ?_; clear hZ
  refine hZ ?_; clear hZ
  refine ⟨.ref a, h1.mg hg, .dct ?_ h2 h3 ?_⟩
  · obtain ⟨o, es, ep, e, _⟩ := h3; exact isSome_of e
  · clear h1 h3
    have key : ∀ (l : List (Str × Int)) (kvs : List (Str × Value)), kvs.map (·.1) = l.map (·.1) → (∀ (i : Nat) k v, kvs[i]? = some (k, v) → ∃ n t, l[i]? = some (k, n) ∧ v = .int n t) → C.VRd C.g0 C.B (l.map fun kv => (kv.1, .int kv.2)) kvs := by
      intro l
      induction l with
      | nil => intro kvs e _; cases kvs with | nil => exact .nil | cons => cases e
      | cons p l ih =>
        intro kvs e hh
        cases kvs with
        | nil => cases e
        | cons q kvs =>
          rw [List.map_cons, List.map_cons, List.cons.injEq] at e
          refine byC fun hZ => ?_
          refine byC fun hZ => ?_
          obtain ⟨n, t, e1, e2⟩ := hh 0 q.1 q.2 rfl
          refine hZ ?_; clear hZ
          refine hZ ?_; clear hZ
          cases e1
          obtain ⟨k, v⟩ := q
          cases e2
          exact .cons (.int ..) (ih kvs e.2 fun i k v hi => hh (i + 1) k v hi)
    exact key l kvs h4 h5

noncomputable abbrev XTab := List (Str × List Str)
noncomputable def XTab.isa (tb : XTab) (k y : Str) : Bool := (tb.lookup k).any (·.contains y)
noncomputable def addrOf (h : Heap) (k : Str) : Option Addr := match h.nsMap mainGlobals k with
  | some (.ref a) => some a
  | _ => none
noncomputable def objFrag (h : Heap) (a : Addr) : Frag := match h.get? a with
  | some o => [(a, o)]
  | none => []
noncomputable def nsOf (h : Heap) (a : Addr) : Frag := match h.get? a with
  | some ⟨_, _, .cls cd, _⟩ => objFrag h cd.ns
  | _ => []
noncomputable def fragOf (h : Heap) (tb : XTab) : Frag := tb.flatMap fun p => match addrOf h p.1 with
  | some a => objFrag h a ++ nsOf h a
  | none => []
theorem objFrag_mem {h : Heap} {a b : Addr} {o : Obj} (m : (b, o) ∈ objFrag h a) : h.get? b = some o := by
  unfold objFrag at m
  split at m
  · rename_i o' e
    cases List.mem_singleton.mp m
    exact e
  · cases m
theorem lookup_mem_addr {l : Frag} {a : Addr} {o : Obj} (h : l.lookup a = some o) : (a, o) ∈ l := by
  induction l with
  | nil => cases h
  | cons p r ih =>
    obtain ⟨n, b⟩ := p
    rw [List.lookup_cons] at h
    cases hx : a == n with
    | true =>
      rw [hx] at h
      have e1 : b = o := Option.some.inj h
      have e2 : a = n := by simpa using hx
      subst e1 e2
      exact List.mem_cons_self ..
    | false => rw [hx] at h; exact List.mem_cons_of_mem _ (ih h)
theorem fragOf_in (h : Heap) (tb : XTab) : (fragOf h tb).In h := fun a o e => by
  have m := lookup_mem_addr e
  unfold fragOf at m
  refine byC fun hZ => ?_
  obtain ⟨p, _, m⟩ := List.mem_flatMap.mp m
  refine hZ ?_; clear hZ
  split at m
  · rcases List.mem_append.mp m with m | m
    · exact objFrag_mem m
    · unfold nsOf at m
      split at m
      · exact objFrag_mem m
      · cases m
  · cases m
noncomputable def xExc (h : Heap) (tb : XTab) (k : Str) : Option Addr := if (tb.map (·.1)).contains k then addrOf h k else none
noncomputable def vOf (exc : Str → Option Addr) (y : Str) : Option Value := if y = "ValueError" then some (.type "ValueError") else (exc y).map .ref
noncomputable def bmV : List Value := [.type "ValueError", .type "Exception", .type "BaseException", .type "object"]
noncomputable def pairOk (K : Frag) (exc : Str → Option Addr) (tb : XTab) (k : Str) (I : Addr) (y : Str) : Bool := (vOf exc y).any fun v => (kitOne K (.ref I) v == some (tb.isa k y)) && (exmOne K (.ref I) v == some (tb.isa k y))
noncomputable def chainOf (tb : XTab) (p : Str × List Str) : List Str := p.2.filter fun y => !(y == p.1) && (tb.map (·.1)).contains y
noncomputable def excOk (h : Heap) (tb : XTab) : Bool :=
  (specialIn (fragOf h tb) (.builtin "object.__class__") "__get__" == some (some (.builtin "getset_descriptor.__get__"))) && (takesIn (fragOf h tb) (.builtin "object.__class__") == some true) &&
  tb.all fun p => (addrOf h p.1).any fun I => selfOk (fragOf h tb) I && ((("ValueError" : Str) :: tb.map (·.1)).all fun y => pairOk (fragOf h tb) (xExc h tb) tb p.1 I y) &&
    (!p.2.contains "!" || (h.ownExcOk p.1 (chainOf tb p) bmV "ValueError.__new__" && (chainOf tb p).all fun n => h.ownExcOk n [] bmV "ValueError.__new__"))
noncomputable def ExcObj (h : Heap) (I : Addr) : Prop := ∃ bm N nm q bs hdct sn sub ab col dd k0 k1 k2 k3 k5 mN,
  h.get? I = some (excClassObj nm q I N bs bm hdct sn sub ab col dd k0 k1 k2 k3 k5 "ValueError.__new__") ∧ h.Ns N mN ∧ mN "__init__" = none ∧ OwnTail h bmV bm
structure XSays (tb : XTab) (h : Heap) (exc : Str → Option Addr) (K : Frag) : Prop where
  inh : K.In h
  named : ∀ k I, exc k = some I → Named h k (.ref I)
  noVE : exc "ValueError" = none
  all : ∀ p ∈ tb, ∃ I, exc p.1 = some I
  self : ∀ k I, exc k = some I → selfOk K I = true
  get : specialIn K (.builtin "object.__class__") "__get__" = some (some (.builtin "getset_descriptor.__get__"))
  take : takesIn K (.builtin "object.__class__") = some true
  pair : ∀ k I, exc k = some I → ∀ y v, vOf exc y = some v → kitOne K (.ref I) v = some (tb.isa k y) ∧ exmOne K (.ref I) v = some (tb.isa k y)
  obj : ∀ k I, exc k = some I → tb.isa k "!" = true → ExcObj h I
theorem XSays.keeps {tb : XTab} {h h' : Heap} {exc : Str → Option Addr} {K : Frag} (q : XSays tb h exc K) (hk : ∀ b o, h.get? b = some o → h'.get? b = some o) : XSays tb h' exc K :=
  ⟨q.inh.keeps hk, fun k I e => (q.named k I e).keeps hk, q.noVE, q.all, q.self, q.get, q.take, q.pair, fun k I e e2 => by
    refine byC fun hZ => ?_
    obtain ⟨bm, N, nm, qq, bs, hdct, sn, sub, ab, col, dd, k0, k1, k2, k3, k5, mN, h1, h2, h3, h4⟩ := q.obj k I e e2
    refine hZ ?_; clear hZ
    exact ⟨bm, N, nm, qq, bs, hdct, sn, sub, ab, col, dd, k0, k1, k2, k3, k5, mN, hk _ _ h1, h2.keeps hk, h3, h4.keeps hk⟩⟩
theorem xsays_of {tb : XTab} {h : Heap} (hn : (tb.map (·.1)).Nodup) (hno : ¬ ("ValueError" : Str) ∈ tb.map (·.1)) (e : excOk h tb = true) : XSays tb h (xExc h tb) (fragOf h tb) := by
  refine byC fun hZ => ?_
  obtain ⟨e12, e3⟩ := and2 e
  obtain ⟨e1, e2⟩ := and2 e12
  refine hZ ?_; clear hZ
  have e3 := List.all_eq_true.mp e3
  have at_ : ∀ k I, xExc h tb k = some I → ∃ l, (k, l) ∈ tb ∧ addrOf h k = some I := fun k I hx => by
    unfold xExc at hx
    split at hx
    · rename_i hc
      obtain ⟨p, hp, rfl⟩ := List.mem_map.mp (List.contains_iff_mem.mp hc)
      exact ⟨p.2, hp, hx⟩
    · cases hx
  have fact : ∀ k I, xExc h tb k = some I → ∃ l, (k, l) ∈ tb ∧ addrOf h k = some I ∧ selfOk (fragOf h tb) I = true ∧ ((("ValueError" : Str) :: tb.map (·.1)).all fun y => pairOk (fragOf h tb) (xExc h tb) tb k I y) = true ∧
      (!l.contains "!" || (h.ownExcOk k (chainOf tb (k, l)) bmV "ValueError.__new__" && (chainOf tb (k, l)).all fun n => h.ownExcOk n [] bmV "ValueError.__new__")) = true := fun k I hx => by
    refine byC fun hZ => ?_
    obtain ⟨l, hl, ha⟩ := at_ k I hx
    refine hZ ?_; clear hZ
    have z := e3 (k, l) hl
    rw [show addrOf h (k, l).1 = some I from ha] at z
    obtain ⟨z12, z3⟩ := and2 (show (selfOk (fragOf h tb) I && ((("ValueError" : Str) :: tb.map (·.1)).all fun y => pairOk (fragOf h tb) (xExc h tb) tb k I y) &&
      (!l.contains "!" || (h.ownExcOk k (chainOf tb (k, l)) bmV "ValueError.__new__" && (chainOf tb (k, l)).all fun n => h.ownExcOk n [] bmV "ValueError.__new__"))) = true from z)
    obtain ⟨z1, z2⟩ := and2 z12
    exact ⟨l, hl, ha, z1, z2, z3⟩
  have nmd : ∀ k I, addrOf h k = some I → h.nsMap mainGlobals k = some (.ref I) := fun k I ha => by
    unfold addrOf at ha
    split at ha
    · rename_i a q; cases ha; exact q
    · cases ha
  refine ⟨fragOf_in h tb, fun k I hx => ?_, if_neg fun z => hno (List.contains_iff_mem.mp z), fun p hp => ?_, fun k I hx => ?_, beq_iff_eq.mp e1, beq_iff_eq.mp e2, fun k I hx y v hv => ?_, fun k I hx hr => ?_⟩
  · obtain ⟨l, _, ha, _⟩ := fact k I hx
    exact .of_nsMap (nmd k I ha)
  · have z := e3 p hp
    cases ha : addrOf h p.1 with
    | none => rw [ha] at z; cases z
    | some I => exact ⟨I, by unfold xExc; rw [if_pos (List.contains_iff_mem.mpr (List.mem_map.mpr ⟨p, hp, rfl⟩))]; exact ha⟩
  · obtain ⟨l, _, _, z, _⟩ := fact k I hx; exact z
  · refine byC fun hZ => ?_
    obtain ⟨l, _, _, _, z, _⟩ := fact k I hx
    refine hZ ?_; clear hZ
    have hy : y ∈ ("ValueError" : Str) :: tb.map (·.1) := by
      unfold vOf at hv
      split at hv
      · rename_i q; rw [q]; exact List.mem_cons_self ..
      · refine byC fun hZ => ?_
        obtain ⟨D, hD, _⟩ := Option.map_eq_some_iff.mp hv
        obtain ⟨l', hl', _⟩ := at_ y D hD
        refine hZ ?_; clear hZ
        exact List.mem_cons_of_mem _ (List.mem_map.mpr ⟨_, hl', rfl⟩)
    have z := List.all_eq_true.mp z y hy
    unfold pairOk at z
    rw [hv] at z
    obtain ⟨z1, z2⟩ := and2 (show ((kitOne (fragOf h tb) (.ref I) v == some (tb.isa k y)) && (exmOne (fragOf h tb) (.ref I) v == some (tb.isa k y))) = true from z)
    exact ⟨beq_iff_eq.mp z1, beq_iff_eq.mp z2⟩
  · refine byC fun hZ => ?_
    obtain ⟨l, hl, ha, _, _, z⟩ := fact k I hx
    refine hZ ?_; clear hZ
    have hlk : tb.lookup k = some l := lookup_of_mem hn hl
    unfold XTab.isa at hr
    rw [hlk] at hr
    have hr : l.contains "!" = true := hr
    rw [hr] at z
    obtain ⟨z1, z2⟩ := and2 (show (h.ownExcOk k (chainOf tb (k, l)) bmV "ValueError.__new__" && (chainOf tb (k, l)).all fun n => h.ownExcOk n [] bmV "ValueError.__new__") = true from z)
    refine byC fun hZ => ?_
    refine byC fun hZ => ?_
    obtain ⟨D, N, nm, q, bs, hdct, sn, sub, ab, col, dd, k0, k1, k2, k3, k5, g1, g2, g3, g4⟩ := Heap.ownExc_of_ok z1
    refine hZ ?_; clear hZ
    refine hZ ?_; clear hZ
    rw [nmd k I ha] at g1
    cases g1
    exact ⟨_, N, nm, q, bs, hdct, sn, sub, ab, col, dd, k0, k1, k2, k3, k5, _, g2, g3, g4, OwnTail.of_chain (chainOf tb (k, l)) fun n hn => ⟨_, _, _, List.all_eq_true.mp z2 n hn⟩⟩

theorem XSays.excAt {C : Fix} {tb : XTab} {K : Frag} (q : XSays tb C.B C.exc K) (hg : C.B.Ns mainGlobals C.mg) : ∀ k I, C.exc k = some I → tb.isa k "!" = true → ExcAt C k I := fun k I h1 h2 => ⟨(q.named k I h1).mg hg, q.obj k I h1 h2⟩
theorem XSays.isaAt {C : Fix} {tb : XTab} {K : Frag} (q : XSays tb C.B C.exc K) (hg : C.B.Ns mainGlobals C.mg) : IsaAt C tb.isa := fun k I hI y hy => by
  obtain ⟨v, hv, hv2⟩ : ∃ v, vOf C.exc y = some v ∧ (v = .type "ValueError" ∧ y = "ValueError" ∨ C.mg y = some v) := by
    rcases hy with ⟨D, hD⟩ | rfl
    · have hne : y ≠ "ValueError" := by rintro rfl; rw [q.noVE] at hD; cases hD
      exact ⟨.ref D, by unfold vOf; rw [if_neg hne, hD]; rfl, .inr ((q.named y D hD).mg hg)⟩
    · exact ⟨_, by unfold vOf; rw [if_pos rfl], .inl ⟨rfl, rfl⟩⟩
  obtain ⟨p1, p2⟩ := q.pair k I hI y v hv
  refine ⟨v, hv2, fun {A E s e o Q} hB ho hc hq => ?_, fun {A E s e o Q} hB ho hc hq => ?_⟩
  · exact kia_one (exc_kitx (q.self k I hI) q.get q.take) (q.inh.keeps hB) ⟨o, ho, hc⟩ p1 (by intro z; cases z) hq
  · exact exm_one (q.inh.keeps hB) (hc ▸ (Looks.ld ho).andThen .now) p2 A Q E s (fun _ _ z => z) hq
theorem XTab.isa_key {tb : XTab} {k y : Str} (h : tb.isa k y = true) : ∃ p ∈ tb, p.1 = k := by
  unfold XTab.isa at h
  cases hl : tb.lookup k with
  | none => rw [hl] at h; cases h
  | some l => exact ⟨_, lookup_mem_pair hl, rfl⟩
theorem XSays.exk {tb : XTab} {h : Heap} {exc : Str → Option Addr} {K : Frag} (q : XSays tb h exc K) : ∀ k, tb.isa k k = true → ∃ I, exc k = some I := fun k hk => by
  obtain ⟨p, hp, rfl⟩ := XTab.isa_key hk
  exact q.all p hp

structure HookD where
  tb : XTab
  ds : List (Str × List (Str × Int))
theorem hook_all {α β : Type} {f g : α → β} {l : List α} (h : l.map f = l.map g) : ∀ x ∈ l, f x = g x := by
  induction l with
  | nil => intro x hx; cases hx
  | cons a l ih =>
    rw [List.map_cons, List.map_cons, List.cons.injEq] at h
    intro x hx
    rcases List.mem_cons.mp hx with rfl | hx
    · exact h.1
    · exact ih h.2 x hx
noncomputable def HookD.hook (prog : Program) (k : HookD) (hn : ∀ d ∈ k.ds, (d.2.map (·.1)).Nodup) (hx : (k.tb.map (·.1)).Nodup) (hno : ¬ ("ValueError" : Str) ∈ k.tb.map (·.1)) : Hook where
  α := Bool × List (Option DSeen)
  obs s := (excOk s.heap k.tb, k.ds.map fun d => dictSeen s.heap d.1)
  val w := (true, k.ds.map fun d => some (dictGood w d.2))
  says w h := (∃ exc K, XSays k.tb h exc K) ∧ ∀ d ∈ k.ds, DictIs prog w h d.1 d.2
  of w s e := ⟨⟨_, _, xsays_of hx hno (congrArg Prod.fst e)⟩, fun d hd => dictIs_of (hn d hd) (hook_all (congrArg Prod.snd e) d hd)⟩
  keeps w h h' q hk := ⟨let ⟨exc, K, q1⟩ := q.1; ⟨exc, K, q1.keeps hk⟩, fun d hd => (q.2 d hd).keeps hk⟩
end Mine

set_option autoImplicit false
set_option linter.unusedVariables false
namespace Mine
open PySem PyProof.Rows PySem.SeqAt PySem.Calls PySem.W
noncomputable def tblChkD (rs : List DefRec) (tbl : List (Str × Fn)) : Bool := tbl.all fun p => !noDot p.1 || rs.any fun d => d.name == p.1 && fnChk p.2 d.params d.body d.scope
section
variable {prog : Program} {w : World} {view : Program} {loose : List Str} {mean : ExcName → Option Value} {mg mb : Str → Option Value} {B : Heap} {fs : List Env} {exc : Str → Option Addr}
theorem fns_of_topD (T : Top view loose mean mg mb B) {tbl : List (Str × Fn)} (hc : tblChkD (recsOf view) tbl = true) : ∀ f F, noDot f = true → tbl.lookup f = some F → FnOK (Fix.mk prog w B mg mb fs exc) f F := fun f F hdot hf => by
  have h1 := List.all_eq_true.mp hc _ (lookup_mem_pair hf)
  simp only [hdot, Bool.not_true, Bool.false_or] at h1
  refine byC fun hZ => ?_
  obtain ⟨d, hd, h2⟩ := List.any_eq_true.mp h1
  obtain ⟨h3, h4⟩ := and2 h2
  have h3 : d.name = f := by simpa using h3
  obtain ⟨a, o, pm, code, doc, q1, q2, q3, q4⟩ := T.fn d hd
  refine hZ ?_; clear hZ
  rw [h3] at q1 q3 q4
  exact ⟨a, q1, o, f, f, d.params, d.body, d.scope, pm, code, doc, q2, q3, q4, fnChk_of h4⟩
end
end Mine

set_option autoImplicit false
set_option backward.match.sparseCases false
namespace Mine
open PySem
noncomputable def isU : PV → Bool
  | .undef => true
  | .none => false
  | .bool _ => false
  | .int _ => false
  | .str _ => false
  | .tup _ => false
  | .lst _ => false
  | .dct _ => false
  | .rng _ _ => false
  | .ref _ => false
inductive Nv where
  | ini (n : Nat) (l : List (Option PV))
  | upd (ρ : Nv) (i : Nat) (v : PV)
  | del (ρ : Nv) (i : Nat)
noncomputable def Nv.len : Nv → Nat
  | .ini n _ => n
  | .upd ρ _ _ => ρ.len
  | .del ρ _ => ρ.len
noncomputable def nth : List (Option PV) → Nat → Option PV
  | [], _ => none
  | o :: l, n => match n with
    | 0 => o
    | n + 1 => nth l n
noncomputable def lk : Nv → Nat → Option PV
  | .ini _ l, j => nth l j
  | .upd ρ i v, j => bif Nat.beq i j then some v else lk ρ j
  | .del ρ i, j => bif Nat.beq i j then none else lk ρ j
noncomputable def den1 : Option PV → PV
  | some v => v
  | none => .undef
noncomputable def den (ρ : Nv) : List PV := (List.range ρ.len).map fun i => den1 (lk ρ i)
noncomputable def okE (ρ : Nv) : Prop := ∀ i v, lk ρ i = some v → isU v = false
noncomputable abbrev onO {α : Type} (o : Option α) (K : α → Prop) : Prop := @Option.rec α (fun _ => Prop) False K o
noncomputable abbrev pick (b : Bool) (P Q : Prop) : Prop := @Bool.rec (fun _ => Prop) Q P b
noncomputable abbrev onX {α : Type} (r : Res α) (K : α → AH → Prop) (X : Str → AH → Prop) : Prop := @Res.rec α (fun _ => Prop) K X False r
noncomputable abbrev onR {α : Type} (r : Res α) (K : α → AH → Prop) : Prop := onX r K fun _ _ => False
theorem onO.mk {α : Type} {o : Option α} {K : α → Prop} {a : α} (h : o = some a) (k : K a) : @Option.rec α (fun _ => Prop) False K o := h ▸ k
theorem pick.t {b : Bool} {P Q : Prop} (h : b = true) (k : P) : @Bool.rec (fun _ => Prop) Q P b := h ▸ k
theorem pick.f {b : Bool} {P Q : Prop} (h : b = false) (k : Q) : @Bool.rec (fun _ => Prop) Q P b := h ▸ k
theorem pick.mk {b : Bool} {P Q : Prop} (h1 : b = true → P) (h2 : b = false → Q) : @Bool.rec (fun _ => Prop) Q P b := by cases b; exact h2 rfl; exact h1 rfl
theorem onX.mk {α : Type} {r : Res α} {K : α → AH → Prop} {X : Str → AH → Prop} {a : α} {σ : AH} (h : r = .ok a σ) (k : K a σ) : @Res.rec α (fun _ => Prop) K X False r := h ▸ k
theorem onO_iff {α : Type} {o : Option α} {K : α → Prop} (h : onO o K) : ∃ a, o = some a ∧ K a := by
  cases o with
  | none => exact h.elim
  | some a => exact ⟨a, rfl, h⟩
theorem onR_iff {α : Type} {r : Res α} {K : α → AH → Prop} (h : onR r K) : ∃ a σ, r = .ok a σ ∧ K a σ := by
  cases r with
  | ok a σ => exact ⟨a, σ, rfl, h⟩
  | exc e σ => exact h.elim
  | bad => exact h.elim
theorem onF_iff {m : Nat} {o : Option Out} {σ : AH} {K : PV → AH → Prop} (h : onO o fun w => @Out.rec (fun _ => Prop) (fun v => K v σ) (fun f => onR (box m f σ) K) w) : onR (fin m o σ) K := by
  rcases o with _ | ⟨v⟩ | ⟨f⟩
  · exact h
  · exact h
  · exact h
noncomputable def updO (ρ : Nv) (i : Nat) (v : PV) : Option Nv := bif Nat.blt i ρ.len then (bif isU v then none else some (.upd ρ i v)) else none
noncomputable def updAll : Nv → List Nat → List PV → Option Nv
  | ρ, [], l => match l with
    | [] => some ρ
    | _ :: _ => none
  | ρ, i :: is, l => match l with
    | [] => none
    | v :: vs => (updO ρ i v).bind fun ρ1 => updAll ρ1 is vs
noncomputable def bindO : Tgt → PV → Nv → Option Nv
  | .one i, v, ρ => updO ρ i v
  | .many is, v, ρ => (tupOf v).bind fun l => updAll ρ is l
noncomputable def killO : List Nat → Nv → Nv
  | [], ρ => ρ
  | i :: ks, ρ => killO ks (.del ρ i)
noncomputable def hide : Nv → Nv
  | ρ => .ini ρ.len []
noncomputable abbrev KV := PV → AH → Prop
noncomputable def jOut (m : Nat) (σ : AH) (K : KV) (w : Out) : Prop := @Out.rec (fun _ => Prop) (fun v => K v σ) (fun f => onR (box m f σ) K) w
noncomputable def jHere (σ : AH) (K : KV) (v : PV) : Prop := K v σ
noncomputable def jBool (σ : AH) (K : KV) (b : Bool) : Prop := K (.bool b) σ
noncomputable def jBin2 (op : Operator) (x : PV) (m : Nat) (K : KV) (y : PV) (σ : AH) : Prop := onO (binop σ op x y) (jOut m σ K)
noncomputable def jBin1 (vb : AH → KV → Prop) (op : Operator) (m : Nat) (K : KV) (x : PV) (σ : AH) : Prop := vb σ (jBin2 op x m K)
noncomputable def jNot (K : KV) (x : PV) (σ : AH) : Prop := onO (truth σ x) fun b => K (.bool (!b)) σ
noncomputable def jNeg (K : KV) (x : PV) (σ : AH) : Prop := onO (intOf x) fun i => K (.int (-i)) σ
noncomputable def jCmp2 (op : CmpOp) (x : PV) (K : KV) (y : PV) (σ : AH) : Prop := onO (cmpP σ op x y) (jBool σ K)
noncomputable def jCmp1 (vb : AH → KV → Prop) (op : CmpOp) (K : KV) (x : PV) (σ : AH) : Prop := vb σ (jCmp2 op x K)
noncomputable def jTup (K : KV) (vs : List PV) (σ : AH) : Prop := K (.tup vs) σ
noncomputable def jLst (m : Nat) (K : KV) (vs : List PV) (σ : AH) : Prop := onR (box m (.list vs) σ) K
noncomputable def jIdx2 (x : PV) (K : KV) (i : PV) (σ : AH) : Prop := onO (getAt σ x i) (jOut 0 σ K)
noncomputable def jIdx1 (vb : AH → KV → Prop) (K : KV) (x : PV) (σ : AH) : Prop := vb σ (jIdx2 x K)
noncomputable def jSl2 (x : PV) (m : Nat) (K : KV) (i : PV) (σ : AH) : Prop := onO (cutF σ x i) (jOut m σ K)
noncomputable def jSl1 (vb : AH → KV → Prop) (m : Nat) (K : KV) (x : PV) (σ : AH) : Prop := vb σ (jSl2 x m K)
noncomputable def jSt2 (x : PV) (m : Nat) (K : KV) (i : PV) (σ : AH) : Prop := onO (cutT σ x i) (jOut m σ K)
noncomputable def jSt1 (vb : AH → KV → Prop) (m : Nat) (K : KV) (x : PV) (σ : AH) : Prop := vb σ (jSt2 x m K)
noncomputable def jSlt3 (x i : PV) (m : Nat) (K : KV) (j : PV) (σ : AH) : Prop := onO (cutP σ x i j) (jOut m σ K)
noncomputable def jSlt2 (vh : AH → KV → Prop) (x : PV) (m : Nat) (K : KV) (i : PV) (σ : AH) : Prop := vh σ (jSlt3 x i m K)
noncomputable def jSlt1 (vb vh : AH → KV → Prop) (m : Nat) (K : KV) (x : PV) (σ : AH) : Prop := vb σ (jSlt2 vh x m K)
noncomputable def jCmpB (m : Nat) (K : KV) (vs : List PV) (σ2 : AH) : Prop := onR (box m (.list vs) σ2) K
noncomputable def vComp (c : Cx) (cond elt : PE) (m : Nat) (t : Tgt) (l : List PV) (v : PV) (ρ : Nv) (σ : AH) (K : KV) : Prop :=
  okE ρ → small l.length = true ∧ onR (unlock v (lkV σ v) (compL (ev c cond 0) (ev c elt m.pred) t (kill (tgtSlots t) (den ρ)) l (lockV σ v true))) (jCmpB m K)
noncomputable def jComp (c : Cx) (cond elt : PE) (m : Nat) (t : Tgt) (ρ : Nv) (K : KV) (v : PV) (σ : AH) : Prop := onO (items σ v) fun l => vComp c cond elt m t l v ρ σ K
noncomputable def jCall (c : Cx) (f : Str) (K : KV) (vs : List PV) (σ : AH) : Prop := onR (c.cal f vs σ) K
noncomputable def jBi (b : BI) (m : Nat) (K : KV) (vs : List PV) (σ : AH) : Prop := onO (biP σ b vs) (jOut m σ K)
noncomputable def jPair (K : KV) (r : PV × AH) : Prop := K r.1 r.2
noncomputable def jMeth2 (mt : BM) (x : PV) (K : KV) (vs : List PV) (σ : AH) : Prop := onO (bmP σ mt x vs) (jPair K)
noncomputable def jMeth1 (va : AH → (List PV → AH → Prop) → Prop) (mt : BM) (K : KV) (x : PV) (σ : AH) : Prop := onO (isTy σ mt.ty x) fun b => pick b (va σ (jMeth2 mt x K)) False
noncomputable def jCons2 (v : PV) (K : List PV → AH → Prop) (vs : List PV) (σ : AH) : Prop := K (v :: vs) σ
noncomputable def jCons1 (vr : AH → (List PV → AH → Prop) → Prop) (K : List PV → AH → Prop) (v : PV) (σ : AH) : Prop := vr σ (jCons2 v K)
noncomputable def jAnd (vr : AH → KV → Prop) (K : KV) (x : PV) (σ : AH) : Prop := onO (truth σ x) fun q => pick q (vr σ K) (K x σ)
noncomputable def jOr (vr : AH → KV → Prop) (K : KV) (x : PV) (σ : AH) : Prop := onO (truth σ x) fun q => pick q (K x σ) (vr σ K)
mutual
noncomputable def vE (c : Cx) : PE → Nat → Nv → AH → KV → Prop
  | .const k, _, _, σ, K => onO (constP k) (jHere σ K)
  | .loc i, _, ρ, σ, K => pick (Nat.blt i ρ.len) (onO (lk ρ i) (jHere σ K)) False
  | .andE es, _, ρ, σ, K => vAnd c es ρ σ K
  | .orE es, _, ρ, σ, K => vOr c es ρ σ K
  | .bin op a b, m, ρ, σ, K => vE c a 0 ρ σ (jBin1 (vE c b 0 ρ) op m K)
  | .notE a, _, ρ, σ, K => vE c a 0 ρ σ (jNot K)
  | .neg a, _, ρ, σ, K => vE c a 0 ρ σ (jNeg K)
  | .cmp op a b, _, ρ, σ, K => vE c a 0 ρ σ (jCmp1 (vE c b 0 ρ) op K)
  | .tup es, _, ρ, σ, K => vEs c es 0 ρ σ (jTup K)
  | .lst es, m, ρ, σ, K => vEs c es m.pred ρ σ (jLst m K)
  | .edict, m, _, σ, K => onR (box m (.dict []) σ) K
  | .idx a i, _, ρ, σ, K => vE c a 0 ρ σ (jIdx1 (vE c i 0 ρ) K)
  | .sliceF a lo, m, ρ, σ, K => vE c a 0 ρ σ (jSl1 (vE c lo 0 ρ) m K)
  | .sliceFT a lo hi, m, ρ, σ, K => vE c a 0 ρ σ (jSlt1 (vE c lo 0 ρ) (vE c hi 0 ρ) m K)
  | .sliceT a hi, m, ρ, σ, K => vE c a 0 ρ σ (jSt1 (vE c hi 0 ρ) m K)
  | .glob x, _, _, σ, K => onO (c.gl x) (jHere σ K)
  | .comp elt t it cond, m, ρ, σ, K => vE c it 0 ρ σ (jComp c cond elt m t ρ K)
  | .call f args, _, ρ, σ, K => vEs c args 0 ρ σ (jCall c f K)
  | .bi b args, m, ρ, σ, K => vEs c args 0 ρ σ (jBi b m K)
  | .meth o mt args, _, ρ, σ, K => vE c o 0 ρ σ (jMeth1 (vEs c args 0 ρ) mt K)
noncomputable def vEs (c : Cx) : PEs → Nat → Nv → AH → (List PV → AH → Prop) → Prop
  | .nil, _, _, σ, K => K [] σ
  | .cons e es, m, ρ, σ, K => vE c e m ρ σ (jCons1 (vEs c es m ρ) K)
noncomputable def vAnd (c : Cx) : PEs → Nv → AH → KV → Prop
  | .nil, _, _, _ => False
  | .cons e es, ρ, σ, K => match es with
    | .nil => vE c e 0 ρ σ K
    | .cons _ _ => vE c e 0 ρ σ (jAnd (vAnd c es ρ) K)
noncomputable def vOr (c : Cx) : PEs → Nv → AH → KV → Prop
  | .nil, _, _, _ => False
  | .cons e es, ρ, σ, K => match es with
    | .nil => vE c e 0 ρ σ K
    | .cons _ _ => vE c e 0 ρ σ (jOr (vOr c es ρ) K)
end
noncomputable abbrev KX := Str → AH → Prop
noncomputable def jCallX (c : Cx) (f : Str) (K : KV) (X : KX) (vs : List PV) (σ : AH) : Prop := onX (c.cal f vs σ) K X
noncomputable def vCompX (c : Cx) (cond elt : PE) (m : Nat) (t : Tgt) (l : List PV) (v : PV) (ρ : Nv) (σ : AH) (K : KV) (X : KX) : Prop :=
  okE ρ → small l.length = true ∧ onX (unlock v (lkV σ v) (compL (ev c cond 0) (ev c elt m.pred) t (kill (tgtSlots t) (den ρ)) l (lockV σ v true))) (jCmpB m K) X
noncomputable def jCompX (c : Cx) (cond elt : PE) (m : Nat) (t : Tgt) (ρ : Nv) (K : KV) (X : KX) (v : PV) (σ : AH) : Prop := onO (items σ v) fun l => vCompX c cond elt m t l v ρ σ K X
noncomputable def jAtr (c : Cx) (f : Str) (X : KX) (k : Str) (σ : AH) : Prop := pick (c.atr f) (X k σ) False
mutual
noncomputable def vEX (c : Cx) : PE → KX → Nat → Nv → AH → KV → Prop
  | .tup es, X, _, ρ, σ, K => vEsX c es X 0 ρ σ (jTup K)
  | .call f args, X, _, ρ, σ, K => vEsX c args (jAtr c f X) 0 ρ σ (jCallX c f K X)
  | .comp elt t it cond, X, m, ρ, σ, K => vE c it 0 ρ σ (jCompX c cond elt m t ρ K X)
  | e, _, m, ρ, σ, K => vE c e m ρ σ K
noncomputable def vEsX (c : Cx) : PEs → KX → Nat → Nv → AH → (List PV → AH → Prop) → Prop
  | .nil, _, _, _, σ, K => K [] σ
  | .cons e es, X, m, ρ, σ, K => vEX c e X m ρ σ (jCons1 (vEsX c es X m ρ) K)
end
end Mine

set_option autoImplicit false
set_option backward.match.sparseCases false
namespace Mine
open PySem
theorem onR.bind {α β : Type} {r : Res α} {f : α → AH → Res β} {K : α → AH → Prop} {K' : β → AH → Prop} (h : onR r K) (k : ∀ a σ, K a σ → onR (f a σ) K') : onR (r.bind f) K' := by
  cases r with
  | ok a σ => exact k a σ h
  | exc e σ => exact h.elim
  | bad => exact h.elim
theorem onR.bindX {α β : Type} {r : Res α} {f : α → AH → Res β} {K : α → AH → Prop} {K' : β → AH → Prop} (h : onR r K) (k : ∀ a σ, K a σ → onR (f a σ) K') : onR (r.bindX f) K' := by
  cases r with
  | ok a σ => exact k a σ h
  | exc e σ => exact h.elim
  | bad => exact h.elim
theorem onX.bindA {α β : Type} {r : Res α} {b : Bool} {f : α → AH → Res β} {K : α → AH → Prop} {K' : β → AH → Prop} {X : Str → AH → Prop} (h : onX r K fun k σ => pick b (X k σ) False) (hf : ∀ a σ, K a σ → onX (f a σ) K' X) : onX (r.bindA b f) K' X := by
  cases r with
  | ok a σ => exact hf a σ h
  | exc k σ => cases b; exact h; exact h
  | bad => exact h
theorem onR.bindA {α β : Type} {r : Res α} {b : Bool} {f : α → AH → Res β} {K : α → AH → Prop} {K' : β → AH → Prop} (h : onR r K) (hf : ∀ a σ, K a σ → onR (f a σ) K') : onR (r.bindA b f) K' := by
  cases r with
  | ok a σ => exact hf a σ h
  | exc k σ => exact h.elim
  | bad => exact h
theorem onX.bindX {α β : Type} {r : Res α} {f : α → AH → Res β} {K : α → AH → Prop} {K' : β → AH → Prop} {X : Str → AH → Prop} (h : onX r K X) (k : ∀ a σ, K a σ → onX (f a σ) K' X) : onX (r.bindX f) K' X := by
  cases r with
  | ok a σ => exact k a σ h
  | exc e σ => exact h
  | bad => exact h.elim
theorem onX.of {α : Type} {r : Res α} {K : α → AH → Prop} {X : Str → AH → Prop} (h : onR r K) : onX r K X := by
  cases r with
  | ok a σ => exact h
  | exc e σ => exact h.elim
  | bad => exact h.elim
theorem den_at {ρ : Nv} {i : Nat} (h : i < ρ.len) : (den ρ)[i]? = some (den1 (lk ρ i)) := by
  unfold den
  rw [List.getElem?_map, List.getElem?_range h]; rfl
theorem loc_ok {c : Cx} {i m : Nat} {ρ : List PV} {σ : AH} {v : PV} (h : ρ[i]? = some v) (hu : isU v = false) : ev c (.loc i) m ρ σ = .ok v σ := by
  rw [e_loc, h]
  cases v <;> first | rfl | cases hu
theorem okB_on {o : Option Bool} {σ : AH} {K : PV → AH → Prop} (h : onO o fun b => K (.bool b) σ) : onR (okB o σ) K := by
  cases o with
  | none => exact h
  | some b => exact h
theorem pickB_on {α : Type} {o : Option Bool} {r1 r2 : Res α} {K : α → AH → Prop} {P1 P2 : Prop} (h : onO o fun q => pick q P1 P2) (h1 : P1 → onR r1 K) (h2 : P2 → onR r2 K) : onR (pickB o r1 r2) K := by
  rcases o with _ | _ | _
  · exact h.elim
  · exact h2 h
  · exact h1 h
theorem okV_on {o : Option PV} {σ : AH} {K : PV → AH → Prop} (h : onO o fun v => K v σ) : onR (okV o σ) K := by
  cases o with
  | none => exact h
  | some v => exact h
section
variable {c : Cx}
mutual
theorem vE_ok : ∀ (e : PE) (m : Nat) (ρ : Nv) (σ : AH) (K : PV → AH → Prop), okE ρ → vE c e m ρ σ K → onR (ev c e m (den ρ) σ) K
  | .const k, m, ρ, σ, K, _, h => by
    refine byC fun hZ => ?_
    obtain ⟨v, h1, h2⟩ := onO_iff (show onO (constP k) fun v => K v σ from h)
    refine hZ ?_; clear hZ
    rw [e_const, h1]; exact h2
  | .loc i, m, ρ, σ, K, he, h => by
    have h : pick (Nat.blt i ρ.len) (onO (lk ρ i) fun v => K v σ) False := h
    cases hb : Nat.blt i ρ.len with
    | false => rw [hb] at h; exact h.elim
    | true =>
      rw [hb] at h
      refine byC fun hZ => ?_
      obtain ⟨v, h1, h2⟩ := onO_iff (show onO (lk ρ i) fun v => K v σ from h)
      refine hZ ?_; clear hZ
      have h3 := den_at (Nat.le_of_ble_eq_true hb)
      rw [h1] at h3
      rw [loc_ok h3 (he i v h1)]; exact h2
  | .andE es, m, ρ, σ, K, he, h => vAnd_ok es ρ σ K he h
  | .orE es, m, ρ, σ, K, he, h => vOr_ok es ρ σ K he h
  | .bin op a b, m, ρ, σ, K, he, h => onR.bind (vE_ok a 0 ρ σ _ he h) fun x σ1 h => onR.bind (vE_ok b 0 ρ σ1 _ he h) fun y σ2 h => onF_iff h
  | .notE a, m, ρ, σ, K, he, h => onR.bind (vE_ok a 0 ρ σ _ he h) fun x σ1 h => okB_on (by
    have h : onO (truth σ1 x) fun b => K (.bool (!b)) σ1 := h
    cases e : truth σ1 x with
    | none => rw [e] at h; exact h
    | some b => rw [e] at h; exact h)
  | .neg a, m, ρ, σ, K, he, h => onR.bind (vE_ok a 0 ρ σ _ he h) fun x σ1 h => by
    cases x <;> first | exact h | exact h.elim
  | .cmp op a b, m, ρ, σ, K, he, h => onR.bind (vE_ok a 0 ρ σ _ he h) fun x σ1 h => onR.bind (vE_ok b 0 ρ σ1 _ he h) fun y σ2 h => okB_on h
  | .tup es, m, ρ, σ, K, he, h => onR.bindX (vEs_ok es 0 ρ σ _ he h) fun vs σ1 h => h
  | .lst es, m, ρ, σ, K, he, h => onR.bind (vEs_ok es m.pred ρ σ _ he h) fun vs σ1 h => h
  | .edict, m, ρ, σ, K, he, h => h
  | .idx a i, m, ρ, σ, K, he, h => onR.bind (vE_ok a 0 ρ σ _ he h) fun x σ1 h => onR.bind (vE_ok i 0 ρ σ1 _ he h) fun y σ2 h => onF_iff h
  | .sliceF a i, m, ρ, σ, K, he, h => onR.bind (vE_ok a 0 ρ σ _ he h) fun x σ1 h => onR.bind (vE_ok i 0 ρ σ1 _ he h) fun y σ2 h => onF_iff h
  | .sliceFT a i j, m, ρ, σ, K, he, h => onR.bind (vE_ok a 0 ρ σ _ he h) fun x σ1 h => onR.bind (vE_ok i 0 ρ σ1 _ he h) fun y σ2 h => onR.bind (vE_ok j 0 ρ σ2 _ he h) fun z σ3 h => onF_iff h
  | .sliceT a i, m, ρ, σ, K, he, h => onR.bind (vE_ok a 0 ρ σ _ he h) fun x σ1 h => onR.bind (vE_ok i 0 ρ σ1 _ he h) fun y σ2 h => onF_iff h
  | .glob x, m, ρ, σ, K, he, h => okV_on h
  | .comp elt t it cond, m, ρ, σ, K, he, h => onR.bind (vE_ok it 0 ρ σ _ he h) fun v σ1 h => by
    have h : onO (items σ1 v) fun l => vComp c cond elt m t l v ρ σ1 K := h
    cases e : items σ1 v with
    | none => rw [e] at h; exact h
    | some l =>
      rw [e] at h
      obtain ⟨hs, h⟩ := h he
      show onR (if small l.length then _ else _) K
      rw [if_pos hs]
      exact onR.bindX h fun vs σ2 h => h
  | .call f args, m, ρ, σ, K, he, h => onR.bindA (vEs_ok args 0 ρ σ _ he h) fun vs σ1 h => h
  | .bi b args, m, ρ, σ, K, he, h => onR.bind (vEs_ok args 0 ρ σ _ he h) fun vs σ1 h => onF_iff h
  | .meth o mt args, m, ρ, σ, K, he, h => onR.bind (vE_ok o 0 ρ σ _ he h) fun x σ1 h => by
    refine byC fun hZ => ?_
    obtain ⟨b, e, h⟩ := onO_iff h
    refine hZ ?_; clear hZ
    cases b with
    | false => exact h.elim
    | true =>
      rw [if_pos e]
      refine onR.bind (vEs_ok args 0 ρ σ1 _ he h) fun vs σ2 h => ?_
      refine byC fun hZ => ?_
      obtain ⟨r, e, h⟩ := onO_iff h
      refine hZ ?_; clear hZ
      rw [e]; exact h
theorem vEs_ok : ∀ (es : PEs) (m : Nat) (ρ : Nv) (σ : AH) (K : List PV → AH → Prop), okE ρ → vEs c es m ρ σ K → onR (evs c es m (den ρ) σ) K
  | .nil, m, ρ, σ, K, _, h => h
  | .cons e es, m, ρ, σ, K, he, h => onR.bindX (vE_ok e m ρ σ _ he h) fun v σ1 h => onR.bindX (vEs_ok es m ρ σ1 _ he h) fun vs σ2 h => h
theorem vAnd_ok : ∀ (es : PEs) (ρ : Nv) (σ : AH) (K : PV → AH → Prop), okE ρ → vAnd c es ρ σ K → onR (evAnd c es (den ρ) σ) K
  | .nil, ρ, σ, K, _, h => h.elim
  | .cons e .nil, ρ, σ, K, he, h => vE_ok e 0 ρ σ K he h
  | .cons e (.cons e' es), ρ, σ, K, he, h => onR.bind (vE_ok e 0 ρ σ _ he h) fun v σ1 h => pickB_on h (vAnd_ok (.cons e' es) ρ σ1 K he) id
theorem vOr_ok : ∀ (es : PEs) (ρ : Nv) (σ : AH) (K : PV → AH → Prop), okE ρ → vOr c es ρ σ K → onR (evOr c es (den ρ) σ) K
  | .nil, ρ, σ, K, _, h => h.elim
  | .cons e .nil, ρ, σ, K, he, h => vE_ok e 0 ρ σ K he h
  | .cons e (.cons e' es), ρ, σ, K, he, h => onR.bind (vE_ok e 0 ρ σ _ he h) fun v σ1 h => pickB_on h id (vOr_ok (.cons e' es) ρ σ1 K he)
end
mutual
theorem vEX_ok : ∀ (e : PE) (X : KX) (m : Nat) (ρ : Nv) (σ : AH) (K : PV → AH → Prop), okE ρ → vEX c e X m ρ σ K → onX (ev c e m (den ρ) σ) K X
  | .tup es, X, m, ρ, σ, K, he, h => onX.bindX (vEsX_ok es X 0 ρ σ _ he h) fun vs σ1 h => h
  | .call f args, X, m, ρ, σ, K, he, h => onX.bindA (vEsX_ok args (jAtr c f X) 0 ρ σ _ he h) fun vs σ1 h => h
  | .comp elt t it cond, X, m, ρ, σ, K, he, h => by
    obtain ⟨v, σ1, e1, h⟩ := onR_iff (vE_ok it 0 ρ σ _ he (show vE c it 0 ρ σ (jCompX c cond elt m t ρ K X) from h))
    obtain ⟨l, e2, h⟩ := onO_iff (show onO (items σ1 v) fun l => vCompX c cond elt m t l v ρ σ1 K X from h)
    show onX ((ev c it 0 (den ρ) σ).bind fun v σ1 => match items σ1 v with
      | none => .bad
      | some l => if small l.length then (unlock v (lkV σ1 v) (compL (ev c cond 0) (ev c elt m.pred) t (kill (tgtSlots t) (den ρ)) l (lockV σ1 v true))).bindX fun vs σ2 => box m (.list vs) σ2 else .bad) K X
    rw [e1]
    show onX (match items σ1 v with
      | none => .bad
      | some l => if small l.length then (unlock v (lkV σ1 v) (compL (ev c cond 0) (ev c elt m.pred) t (kill (tgtSlots t) (den ρ)) l (lockV σ1 v true))).bindX fun vs σ2 => box m (.list vs) σ2 else .bad) K X
    rw [e2]
    obtain ⟨hs, h⟩ := h he
    show onX (if small l.length then _ else _) K X
    rw [if_pos hs]
    exact onX.bindX h fun vs σ2 h => onX.of h
  | .const k, X, m, ρ, σ, K, he, h => onX.of (vE_ok (.const k) m ρ σ K he h)
  | .loc i, X, m, ρ, σ, K, he, h => onX.of (vE_ok (.loc i) m ρ σ K he h)
  | .andE es, X, m, ρ, σ, K, he, h => onX.of (vE_ok (.andE es) m ρ σ K he h)
  | .orE es, X, m, ρ, σ, K, he, h => onX.of (vE_ok (.orE es) m ρ σ K he h)
  | .bin op a b, X, m, ρ, σ, K, he, h => onX.of (vE_ok (.bin op a b) m ρ σ K he h)
  | .notE a, X, m, ρ, σ, K, he, h => onX.of (vE_ok (.notE a) m ρ σ K he h)
  | .neg a, X, m, ρ, σ, K, he, h => onX.of (vE_ok (.neg a) m ρ σ K he h)
  | .cmp op a b, X, m, ρ, σ, K, he, h => onX.of (vE_ok (.cmp op a b) m ρ σ K he h)
  | .lst es, X, m, ρ, σ, K, he, h => onX.of (vE_ok (.lst es) m ρ σ K he h)
  | .edict, X, m, ρ, σ, K, he, h => onX.of (vE_ok .edict m ρ σ K he h)
  | .idx a i, X, m, ρ, σ, K, he, h => onX.of (vE_ok (.idx a i) m ρ σ K he h)
  | .sliceF a lo, X, m, ρ, σ, K, he, h => onX.of (vE_ok (.sliceF a lo) m ρ σ K he h)
  | .sliceFT a lo hi, X, m, ρ, σ, K, he, h => onX.of (vE_ok (.sliceFT a lo hi) m ρ σ K he h)
  | .sliceT a hi, X, m, ρ, σ, K, he, h => onX.of (vE_ok (.sliceT a hi) m ρ σ K he h)
  | .glob x, X, m, ρ, σ, K, he, h => onX.of (vE_ok (.glob x) m ρ σ K he h)
  | .bi b args, X, m, ρ, σ, K, he, h => onX.of (vE_ok (.bi b args) m ρ σ K he h)
  | .meth o mt args, X, m, ρ, σ, K, he, h => onX.of (vE_ok (.meth o mt args) m ρ σ K he h)
theorem vEsX_ok : ∀ (es : PEs) (X : KX) (m : Nat) (ρ : Nv) (σ : AH) (K : List PV → AH → Prop), okE ρ → vEsX c es X m ρ σ K → onX (evs c es m (den ρ) σ) K X
  | .nil, X, m, ρ, σ, K, _, h => h
  | .cons e es, X, m, ρ, σ, K, he, h => onX.bindX (vEX_ok e X m ρ σ _ he h) fun v σ1 h => onX.bindX (vEsX_ok es X m ρ σ1 _ he h) fun vs σ2 h => h
end
end
end Mine

set_option autoImplicit false
set_option backward.match.sparseCases false
set_option linter.unusedVariables false
namespace Mine
open PySem
noncomputable def onS (r : Res FE) (K : Flw → Nv → AH → Prop) (X : Str → AH → Prop) : Prop := onX r (fun p σ => ∃ ρ : Nv, okE ρ ∧ p.2 = den ρ ∧ K p.1 ρ σ) X
noncomputable def vFor (c : Cx) (body : PSs) (t : Tgt) (ks : List Nat) (l : List PV) (v : PV) (ρ : Nv) (σ : AH) (K : Flw → Nv → AH → Prop) (X : Str → AH → Prop) : Prop :=
  okE ρ → onS (unlock v (lkV σ v) (forL (execs c body) t ks l (den ρ) (lockV σ v true))) K X
noncomputable def vWhile (c : Cx) (t : PE) (body : PSs) (ks : List Nat) (ρ : Nv) (σ : AH) (K : Flw → Nv → AH → Prop) (X : Str → AH → Prop) : Prop :=
  okE ρ → onS (whileW (ev c t 0) (execs c body) ks (den ρ) σ) K X
noncomputable def vHand (c : Cx) (k : Str) (hs : HSs) (ρ : Nv) (K : Flw → Nv → AH → Prop) (e : Str) (σ : AH) : Prop :=
  onO (isT c.isa e k) fun b => pick b (onO (hsuite c.isa e hs) fun v => K (.ret v) (hide ρ) σ) False
noncomputable def isNext : Flw → Bool
  | .next => true
  | .brk => false
  | .cont => false
  | .ret _ => false
noncomputable abbrev KS := Flw → Nv → AH → Prop
noncomputable def jEnv (σ : AH) (K : KS) (ρ : Nv) : Prop := K .next ρ σ
noncomputable def jAsg (i : Nat) (ρ : Nv) (K : KS) (v : PV) (σ : AH) : Prop := onO (updO ρ i v) (jEnv σ K)
noncomputable def jNx (ρ : Nv) (K : KS) (σ : AH) : Prop := K .next ρ σ
noncomputable def jSet3 (x a : PV) (ρ : Nv) (K : KS) (k : PV) (σ : AH) : Prop := onO (setAt σ a k x) (jNx ρ K)
noncomputable def jSet2 (vi : AH → KV → Prop) (x : PV) (ρ : Nv) (K : KS) (a : PV) (σ : AH) : Prop := vi σ (jSet3 x a ρ K)
noncomputable def jSet1 (vo vi : AH → KV → Prop) (ρ : Nv) (K : KS) (x : PV) (σ : AH) : Prop := vo σ (jSet2 vi x ρ K)
noncomputable def jAsT (is : List Nat) (ρ : Nv) (K : KS) (v : PV) (σ : AH) : Prop := onO (bindO (.many is) v ρ) (jEnv σ K)
noncomputable def jExp (ρ : Nv) (K : KS) (_ : PV) (σ : AH) : Prop := K .next ρ σ
noncomputable def jRet (ρ : Nv) (K : KS) (v : PV) (σ : AH) : Prop := K (.ret v) ρ σ
noncomputable def jIf (va vb : AH → KS → KX → Prop) (K : KS) (X : KX) (x : PV) (σ : AH) : Prop := onO (truth σ x) fun q => pick q (va σ K X) (vb σ K X)
noncomputable def jForI (c : Cx) (t : Tgt) (body : PSs) (ks : List Nat) (ρ : Nv) (K : KS) (X : KX) (v : PV) (σ : AH) (l : List PV) : Prop := vFor c body t ks l v ρ σ K X
noncomputable def jFor (c : Cx) (t : Tgt) (body : PSs) (ks : List Nat) (ρ : Nv) (K : KS) (X : KX) (v : PV) (σ : AH) : Prop := onO (items σ v) (jForI c t body ks ρ K X v σ)
noncomputable def jTB (c : Cx) (f : Str) (va : AH → (List PV → AH → Prop) → Prop) (vr : AH → Prop) (K : KV) (X : KX) (x : PV) (σ : AH) : Prop := onO (truth σ x) fun q => pick q (va σ (jCallX c f K X)) (vr σ)
noncomputable def vTB (c : Cx) (ρ : Nv) (K : KV) (X : KX) : TB → AH → Prop
  | .last f args, σ => vEs c args 0 ρ σ (jCallX c f K X)
  | .iff t f args r, σ => vE c t 0 ρ σ (jTB c f (vEs c args 0 ρ) (vTB c ρ K X r) K X)
noncomputable def jSeq (vr : Nv → AH → KS → KX → Prop) (K : KS) (X : KX) (f : Flw) (ρ : Nv) (σ : AH) : Prop := pick (isNext f) (vr ρ σ K X) (K f ρ σ)
mutual
noncomputable def vS (c : Cx) : PS → Nv → AH → KS → KX → Prop
  | .assign i m e, ρ, σ, K, X => vEX c e X m ρ σ (jAsg i ρ K)
  | .setitem o i m v, ρ, σ, K, X => vEX c v X m ρ σ (jSet1 (vE c o 0 ρ) (vE c i 0 ρ) ρ K)
  | .assignT is e, ρ, σ, K, _ => vE c e 0 ρ σ (jAsT is ρ K)
  | .whileS t body ks, ρ, σ, K, X => vWhile c t body ks ρ σ K X
  | .expr e, ρ, σ, K, _ => vE c e 0 ρ σ (jExp ρ K)
  | .ret m e, ρ, σ, K, X => vEX c e X m ρ σ (jRet ρ K)
  | .ite t b o, ρ, σ, K, X => vE c t 0 ρ σ (jIf (vSs c b ρ) (vSs c o ρ) K X)
  | .forS t it body ks, ρ, σ, K, X => vE c it 0 ρ σ (jFor c t body ks ρ K X)
  | .raise k _, _, σ, _, X => pick (c.isa k k && c.isa k "!") (X k σ) False
  | .tryS b k i hs, ρ, σ, K, _ => vTB c ρ (jRet ρ K) (vHand c k hs ρ K) b σ
noncomputable def vSs (c : Cx) : PSs → Nv → AH → KS → KX → Prop
  | .nil, ρ, σ, K, _ => K .next ρ σ
  | .cons s ss, ρ, σ, K, X => vS c s ρ σ (jSeq (vSs c ss) K X) X
end
theorem len_den {ρ : Nv} : (den ρ).length = ρ.len := by unfold den; rw [List.length_map, List.length_range]
theorem den_ext {ρ : Nv} {l : List PV} (hl : l.length = ρ.len) (h : ∀ j, j < ρ.len → l[j]? = some (den1 (lk ρ j))) : den ρ = l := by
  refine List.ext_getElem? fun j => ?_
  by_cases hj : j < ρ.len
  · rw [den_at hj, h j hj]
  · rw [List.getElem?_eq_none (by rw [len_den]; exact Nat.le_of_not_lt hj), List.getElem?_eq_none (by rw [hl]; exact Nat.le_of_not_lt hj)]
theorem den_upd {ρ : Nv} {i : Nat} {v : PV} : den (.upd ρ i v) = (den ρ).set i v := by
  refine den_ext (by rw [List.length_set, len_den]; rfl) fun j hj => ?_
  have hj : j < ρ.len := hj
  show _ = some (den1 (bif Nat.beq i j then some v else lk ρ j))
  rw [List.getElem?_set]
  by_cases e : i = j
  · subst e
    rw [if_pos rfl, if_pos (by rw [len_den]; exact hj), Nat.beq_refl]; rfl
  · rw [if_neg e, den_at hj, show Nat.beq i j = false from (Bool.eq_false_iff).mpr fun q => e (Nat.eq_of_beq_eq_true q)]; rfl
theorem den_del {ρ : Nv} {i : Nat} : den (.del ρ i) = (den ρ).set i .undef := by
  refine den_ext (by rw [List.length_set, len_den]; rfl) fun j hj => ?_
  have hj : j < ρ.len := hj
  show _ = some (den1 (bif Nat.beq i j then none else lk ρ j))
  rw [List.getElem?_set]
  by_cases e : i = j
  · subst e
    rw [if_pos rfl, if_pos (by rw [len_den]; exact hj), Nat.beq_refl]; rfl
  · rw [if_neg e, den_at hj, show Nat.beq i j = false from (Bool.eq_false_iff).mpr fun q => e (Nat.eq_of_beq_eq_true q)]; rfl
theorem okE.upd {ρ : Nv} {i : Nat} {v : PV} (h : okE ρ) (hv : isU v = false) : okE (.upd ρ i v) := fun j w hw => by
  have hw : (bif Nat.beq i j then some v else lk ρ j) = some w := hw
  cases e : Nat.beq i j with
  | true => rw [e] at hw; cases hw; exact hv
  | false => rw [e] at hw; exact h j w hw
theorem okE.del {ρ : Nv} {i : Nat} (h : okE ρ) : okE (.del ρ i) := fun j w hw => by
  have hw : (bif Nat.beq i j then none else lk ρ j) = some w := hw
  cases e : Nat.beq i j with
  | true => rw [e] at hw; cases hw
  | false => rw [e] at hw; exact h j w hw
theorem updO_ok {ρ ρ1 : Nv} {i : Nat} {v : PV} (he : okE ρ) (h : updO ρ i v = some ρ1) : okE ρ1 ∧ den ρ1 = (den ρ).set i v := by
  have h : (bif Nat.blt i ρ.len then (bif isU v then none else some (Nv.upd ρ i v)) else none) = some ρ1 := h
  cases hb : Nat.blt i ρ.len with
  | false => rw [hb] at h; cases h
  | true =>
    rw [hb] at h
    have h : (bif isU v then none else some (Nv.upd ρ i v)) = some ρ1 := h
    cases e : isU v with
    | true => rw [e] at h; cases h
    | false => rw [e] at h; cases h; exact ⟨he.upd e, den_upd⟩
theorem updAll_ok : ∀ {is : List Nat} {l : List PV} {ρ ρ1 : Nv}, okE ρ → updAll ρ is l = some ρ1 → okE ρ1 ∧ l.length = is.length ∧ den ρ1 = setAll (den ρ) is l
  | [], [], ρ, ρ1, he, h => by cases h; exact ⟨he, rfl, rfl⟩
  | [], _ :: _, ρ, ρ1, he, h => nomatch h
  | _ :: _, [], ρ, ρ1, he, h => nomatch h
  | i :: is, v :: l, ρ, ρ1, he, h => by
    refine byC fun hZ => ?_
    obtain ⟨ρ2, h1, h2⟩ := Option.bind_eq_some_iff.mp (show (updO ρ i v).bind (fun ρ1 => updAll ρ1 is l) = some ρ1 from h)
    obtain ⟨h3, h4⟩ := updO_ok he h1
    obtain ⟨h5, h6, h7⟩ := updAll_ok h3 h2
    refine hZ ?_; clear hZ
    exact ⟨h5, congrArg (· + 1) h6, by rw [h7, h4]; rfl⟩
theorem okE.kill : ∀ {ks : List Nat} {ρ : Nv}, okE ρ → okE (killO ks ρ)
  | [], ρ, h => h
  | i :: ks, ρ, h => okE.kill (ks := ks) h.del
theorem den_kill : ∀ {ks : List Nat} {ρ : Nv}, den (killO ks ρ) = Mine.kill ks (den ρ)
  | [], ρ => rfl
  | i :: ks, ρ => by
    show den (killO ks (.del ρ i)) = Mine.kill ks ((den ρ).set i .undef)
    rw [den_kill (ks := ks), den_del]
theorem bindO_ok {t : Tgt} {v : PV} {ρ ρ1 : Nv} (he : okE ρ) (h : bindO t v ρ = some ρ1) : okE ρ1 ∧ bindT t v (den ρ) = some (den ρ1) := by
  cases t with
  | one i =>
    obtain ⟨h1, h2⟩ := updO_ok he (show updO ρ i v = some ρ1 from h)
    exact ⟨h1, congrArg some h2.symm⟩
  | many is =>
    refine byC fun hZ => ?_
    obtain ⟨l, e, h⟩ := Option.bind_eq_some_iff.mp (show ((tupOf v).bind fun l => updAll ρ is l) = some ρ1 from h)
    obtain ⟨h1, h2, h3⟩ := updAll_ok he h
    refine hZ ?_; clear hZ
    refine ⟨h1, ?_⟩
    cases v with
    | tup l' => cases e; show (if l.length = is.length then some (setAll (den ρ) is l) else none) = _; rw [if_pos h2, h3]
    | _ => cases e
theorem onS.mk {f : Flw} {ρ : Nv} {σ : AH} {K : Flw → Nv → AH → Prop} {X : Str → AH → Prop} (he : okE ρ) (h : K f ρ σ) : onS (.ok (f, den ρ) σ) K X := ⟨ρ, he, rfl, h⟩
theorem onS.bindE {α : Type} {r : Res α} {f : α → AH → Res FE} {K : α → AH → Prop} {K' : Flw → Nv → AH → Prop} {X : Str → AH → Prop} (h : onR r K) (k : ∀ a σ, K a σ → onS (f a σ) K' X) : onS (r.bind f) K' X := by
  cases r with
  | ok a σ => exact k a σ h
  | exc e σ => exact h.elim
  | bad => exact h.elim
theorem onX.bindS {α : Type} {r : Res α} {f : α → AH → Res FE} {K : α → AH → Prop} {K' : Flw → Nv → AH → Prop} {X : Str → AH → Prop} (h : onX r K X) (k : ∀ a σ, K a σ → onS (f a σ) K' X) : onS (r.bindX f) K' X := by
  cases r with
  | ok a σ => exact k a σ h
  | exc e σ => exact h
  | bad => exact h
theorem pick_iff {b : Bool} {P : Prop} (h : pick b P False) : b = true ∧ P := by
  cases b with
  | false => exact h.elim
  | true => exact ⟨rfl, h⟩
section
variable {c : Cx}
theorem vTB_ok {ρ : Nv} {K : KV} {X : KX} (he : okE ρ) : ∀ (b : TB) (σ : AH), vTB c ρ K X b σ → onX (tryR c b (den ρ) σ) K X
  | .last f args, σ, h => by
    obtain ⟨vs, σ1, e1, h⟩ := onR_iff (vEs_ok args 0 ρ σ _ he (show vEs c args 0 ρ σ (jCallX c f K X) from h))
    show onX ((evs c args 0 (den ρ) σ).bind fun vs σ1 => c.cal f vs σ1) K X
    rw [e1]; exact h
  | .iff t f args r, σ, h => by
    obtain ⟨x, σ1, e1, h⟩ := onR_iff (vE_ok t 0 ρ σ _ he (show vE c t 0 ρ σ (jTB c f (vEs c args 0 ρ) (vTB c ρ K X r) K X) from h))
    obtain ⟨q, e2, h⟩ := onO_iff (show onO (truth σ1 x) _ from h)
    show onX ((ev c t 0 (den ρ) σ).bind fun x σ1 => pickB (truth σ1 x) ((evs c args 0 (den ρ) σ1).bind fun vs σ2 => c.cal f vs σ2) (tryR c r (den ρ) σ1)) K X
    rw [e1]
    show onX (pickB (truth σ1 x) ((evs c args 0 (den ρ) σ1).bind fun vs σ2 => c.cal f vs σ2) (tryR c r (den ρ) σ1)) K X
    rw [e2]
    cases q with
    | true =>
      obtain ⟨vs, σ2, e3, h⟩ := onR_iff (vEs_ok args 0 ρ σ1 _ he (show vEs c args 0 ρ σ1 (jCallX c f K X) from h))
      show onX ((evs c args 0 (den ρ) σ1).bind fun vs σ2 => c.cal f vs σ2) K X
      rw [e3]; exact h
    | false => exact vTB_ok he r σ1 h
mutual
theorem vS_ok : ∀ (s : PS) (ρ : Nv) (σ : AH) (K : Flw → Nv → AH → Prop) (X : Str → AH → Prop), okE ρ → vS c s ρ σ K X → onS (exec c s (den ρ) σ) K X
  | .assign i m e, ρ, σ, K, X, he, h => onX.bindS (vEX_ok e X m ρ σ _ he h) fun v σ1 h => by
    refine byC fun hZ => ?_
    obtain ⟨ρ1, h1, h2⟩ := onO_iff h
    obtain ⟨h3, h4⟩ := updO_ok he h1
    refine hZ ?_; clear hZ
    rw [← h4]
    exact onS.mk h3 h2
  | .setitem o i m v, ρ, σ, K, X, he, h => onX.bindS (vEX_ok v X m ρ σ _ he h) fun x σ1 h => onS.bindE (vE_ok o 0 ρ σ1 _ he h) fun a σ2 h => onS.bindE (vE_ok i 0 ρ σ2 _ he h) fun k σ3 h => by
    refine byC fun hZ => ?_
    obtain ⟨σ4, h1, h2⟩ := onO_iff h
    refine hZ ?_; clear hZ
    rw [h1]; exact onS.mk he h2
  | .assignT is e, ρ, σ, K, X, he, h => onS.bindE (vE_ok e 0 ρ σ _ he h) fun v σ1 h => by
    refine byC fun hZ => ?_
    obtain ⟨ρ1, h1, h2⟩ := onO_iff h
    obtain ⟨h3, h4⟩ := bindO_ok he h1
    refine hZ ?_; clear hZ
    rw [h4]; exact onS.mk h3 h2
  | .whileS t body ks, ρ, σ, K, X, he, h => h he
  | .expr e, ρ, σ, K, X, he, h => onS.bindE (vE_ok e 0 ρ σ _ he h) fun v σ1 h => onS.mk he h
  | .ret m e, ρ, σ, K, X, he, h => onX.bindS (vEX_ok e X m ρ σ _ he h) fun v σ1 h => onS.mk he h
  | .ite t b o, ρ, σ, K, X, he, h => onS.bindE (vE_ok t 0 ρ σ _ he h) fun x σ1 h => by
    refine byC fun hZ => ?_
    obtain ⟨q, h1, h2⟩ := onO_iff h
    refine hZ ?_; clear hZ
    rw [h1]
    cases q with
    | true => exact vSs_ok b ρ σ1 K X he h2
    | false => exact vSs_ok o ρ σ1 K X he h2
  | .forS t it body ks, ρ, σ, K, X, he, h => onS.bindE (vE_ok it 0 ρ σ _ he h) fun v σ1 h => by
    refine byC fun hZ => ?_
    obtain ⟨l, h1, h2⟩ := onO_iff h
    refine hZ ?_; clear hZ
    rw [h1]; exact h2 he
  | .raise k x, ρ, σ, K, X, he, h => by
    obtain ⟨h1, h2⟩ := pick_iff h
    show onS (bif c.isa k k && c.isa k "!" then .exc k σ else .bad) K X
    rw [h1]; exact h2
  | .tryS b k i hs, ρ, σ, K, X, he, h => by
    have h := vTB_ok he b σ (show vTB c ρ (jRet ρ K) (vHand c k hs ρ K) b σ from h)
    show onS (tried c.isa k hs (den ρ) (tryR c b (den ρ) σ)) K X
    cases e : tryR c b (den ρ) σ with
    | ok v σ2 => rw [e] at h; exact onS.mk he h
    | bad => rw [e] at h; exact h.elim
    | exc y σ2 =>
      rw [e] at h
      refine byC fun hZ => ?_
      obtain ⟨b, h1, h⟩ := onO_iff (show onO (isT c.isa y k) _ from h)
      obtain ⟨hb, h⟩ := pick_iff h
      obtain ⟨v, h2, h⟩ := onO_iff h
      refine hZ ?_; clear hZ
      show onS (handled c.isa y hs (den ρ) σ2 (isT c.isa y k)) K X
      rw [h1, hb]
      show onS (match hsuite c.isa y hs with
        | some v => .ok (.ret v, (den ρ).map fun _ => .undef) σ2
        | none => .bad) K X
      rw [h2]
      have : ((den ρ).map fun _ => PV.undef) = den (hide ρ) := by unfold den; rw [List.map_map]; rfl
      show onS (.ok (.ret v, (den ρ).map fun _ => .undef) σ2) K X
      rw [this]
      exact onS.mk (fun w v hw => nomatch hw) h
theorem vSs_ok : ∀ (ss : PSs) (ρ : Nv) (σ : AH) (K : Flw → Nv → AH → Prop) (X : Str → AH → Prop), okE ρ → vSs c ss ρ σ K X → onS (execs c ss (den ρ) σ) K X
  | .nil, ρ, σ, K, X, he, h => onS.mk he h
  | .cons s ss, ρ, σ, K, X, he, h => onX.bindS (vS_ok s ρ σ _ X he h) fun p σ1 ⟨ρ1, h1, h2, h3⟩ => by
    obtain ⟨f, ρ'⟩ := p
    cases h2
    cases f with
    | next => exact vSs_ok ss ρ1 σ1 K X h1 h3
    | brk => exact onS.mk h1 h3
    | cont => exact onS.mk h1 h3
    | ret v => exact onS.mk h1 h3
end
end
end Mine

set_option autoImplicit false
set_option backward.match.sparseCases false
set_option linter.unusedVariables false
namespace Mine
open PySem
noncomputable def uAll : List PV → Bool
  | [] => true
  | v :: r => bif isU v then false else uAll r
theorem uAll_mem : ∀ {l : List PV}, uAll l = true → ∀ v ∈ l, isU v = false
  | [], _, v, hv => nomatch hv
  | w :: r, h, v, hv => by
    have h : (bif isU w then false else uAll r) = true := h
    cases e : isU w with
    | true => rw [e] at h; cases h
    | false =>
      rw [e] at h
      rcases List.mem_cons.mp hv with q | q
      · rw [q]; exact e
      · exact uAll_mem h v q
theorem uAll_cons {v : PV} {r : List PV} (h1 : isU v = false) (h2 : uAll r = true) : uAll (v :: r) = true := by
  show (bif isU v then false else uAll r) = true
  rw [h1]; exact h2
structure At (G : Glob) (d : Nat) (c : Cx) : Prop where
  cal : ∀ f vs σ, c.cal f vs σ = callD G d f vs σ
  gl : ∀ x, c.gl x = G.const x
  isa : c.isa = G.isa
  atr : ∀ x, c.atr x = G.atr x
theorem nth_map : ∀ (l : List PV) (j : Nat), nth (l.map some) j = l[j]?
  | [], _ => rfl
  | v :: l, 0 => rfl
  | v :: l, j + 1 => nth_map l j
theorem den_args {args : List PV} {n : Nat} (h : args.length ≤ n) : den (.ini n (args.map some)) = args ++ List.replicate (n - args.length) .undef := by
  refine den_ext (by rw [List.length_append, List.length_replicate]; exact Nat.add_sub_cancel' h) fun j hj => ?_
  have hj : j < n := hj
  show _ = some (den1 (nth (args.map some) j))
  rw [nth_map]
  by_cases q : j < args.length
  · rw [List.getElem?_append_left q, List.getElem?_eq_getElem q]; rfl
  · have q := Nat.le_of_not_lt q
    rw [List.getElem?_append_right q, List.getElem?_replicate, List.getElem?_eq_none q, if_pos (Nat.sub_lt_sub_right q hj)]; rfl
theorem args_ok {args : List PV} {n : Nat} (hu : uAll args = true) : okE (.ini n (args.map some)) := fun i v h => by
  have h : nth (args.map some) i = some v := h
  rw [nth_map] at h
  exact uAll_mem hu v (List.mem_of_getElem? h)
theorem run_ex {G : Glob} {d : Nat} {f : Str} {F : Fn} {args : List PV} {σ : AH} {P : Res PV → Prop} (hF : G.fn f = some F) (hn : args.length = F.nargs) (hs : Nat.ble F.nargs F.slots = true) (hu : uAll args = true)
    (h : ∀ c : Cx, At G d c → vSs c F.body (.ini F.slots (args.map some)) σ (fun f _ σ' => P (left F.keep σ (.ok (f, []) σ'))) (fun k σ' => P (left F.keep σ (.exc k σ')))) : P (callD G (d + 1) f args σ) := by
  have hd : den (.ini F.slots (args.map some)) = args ++ List.replicate (F.slots - F.nargs) .undef := hn ▸ den_args (hn ▸ Nat.le_of_ble_eq_true hs)
  have he : okE (.ini F.slots (args.map some)) := args_ok hu
  have H := vSs_ok F.body _ σ _ _ he (h ⟨G.const, callD G d, G.isa, G.atr⟩ ⟨fun _ _ _ => rfl, fun _ => rfl, rfl, fun _ => rfl⟩)
  rw [hd] at H
  have e : callD G (d + 1) f args σ = left F.keep σ (execs ⟨G.const, callD G d, G.isa, G.atr⟩ F.body (args ++ List.replicate (F.slots - F.nargs) .undef) σ) := by
    show (match G.fn f with
      | some F => runFn ⟨G.const, callD G d, G.isa, G.atr⟩ F args σ
      | none => .bad) = _
    rw [hF]
    exact if_pos hn
  rw [e]
  generalize execs ⟨G.const, callD G d, G.isa, G.atr⟩ F.body (args ++ List.replicate (F.slots - F.nargs) .undef) σ = r at H ⊢
  cases r with
  | bad => exact H.elim
  | exc k σ' => exact H
  | ok p σ' =>
    refine byC fun hZ => ?_
    obtain ⟨ρ, _, _, h⟩ := H
    obtain ⟨f, ρ'⟩ := p
    refine hZ ?_; clear hZ
    rw [show left F.keep σ (.ok (f, ρ') σ') = left F.keep σ (.ok (f, []) σ') by cases F.keep <;> rfl]
    exact h
theorem run_of {G : Glob} {d : Nat} {f : Str} {F : Fn} {args : List PV} {σ : AH} {R : Res PV} (hF : G.fn f = some F) (hn : args.length = F.nargs) (hs : Nat.ble F.nargs F.slots = true) (hu : uAll args = true)
    (h : ∀ c : Cx, At G d c → vSs c F.body (.ini F.slots (args.map some)) σ (fun f _ σ' => left F.keep σ (.ok (f, []) σ') = R) (fun k σ' => left F.keep σ (.exc k σ') = R)) : callD G (d + 1) f args σ = R := run_ex (P := (· = R)) hF hn hs hu h
theorem left_p {σ : AH} {v : PV} {ρ : List PV} (h : pureV v = true) : left false σ (.ok (.ret v, ρ) σ) = .ok v σ := by
  rw [left_rf, List.take_length, if_pos rfl, frz_pure h]
theorem left_q {σ σ' : AH} {v : PV} {ρ : List PV} (h : pureV v = true) : left false σ (.ok (.ret v, ρ) (σ ++ σ')) = .ok v σ := by
  rw [left_rf, List.take_left, if_pos rfl, frz_pure h]
theorem call_ {G : Glob} {d : Nat} {c : Cx} {f : Str} {vs : List PV} {σ σ' : AH} {v : PV} {K : PV → AH → Prop} {X : Str → AH → Prop} (a : At G d c) (h : callD G d f vs σ = .ok v σ') (k : K v σ') : @Res.rec PV (fun _ => Prop) K X False (c.cal f vs σ) := onX.mk ((a.cal f vs σ).trans h) k
theorem callX {G : Glob} {d : Nat} {c : Cx} {f : Str} {vs : List PV} {σ : AH} {r : Res PV} {K : PV → AH → Prop} {X : Str → AH → Prop} (a : At G d c) (h : callD G d f vs σ = r) (k : @Res.rec PV (fun _ => Prop) K X False r) : @Res.rec PV (fun _ => Prop) K X False (c.cal f vs σ) := ((a.cal f vs σ).trans h).symm ▸ k
theorem glob_ {G : Glob} {d : Nat} {c : Cx} {x : Str} {v : PV} {K : PV → Prop} (a : At G d c) (h : G.const x = some v) (k : K v) : @Option.rec _ (fun _ => Prop) False K (c.gl x) := onO.mk ((a.gl x).trans h) k
noncomputable def s64 (y : Int) : Bool := decide (-18446744073709551616 < y) && decide (y < 18446744073709551616)
theorem s64_of {y : Int} (h : s64 y = true) : -(2 ^ 64) < y ∧ y < 2 ^ 64 := by
  have h := Bool.and_eq_true_iff.mp h
  exact ⟨of_decide_eq_true h.1, of_decide_eq_true h.2⟩
theorem mul_r {x y : Int} (h : s64 y = true) : IntMulOk x y := mulOk_r (s64_of h).1 (s64_of h).2
theorem mul_l {x y : Int} (h : s64 x = true) : IntMulOk x y := mulOk_l (s64_of h).1 (s64_of h).2
theorem v_mul {σ : AH} {x y : Int} {K : Out → Prop} (h : IntMulOk x y) (k : K (.v (.int (x * y)))) : @Option.rec _ (fun _ => Prop) False K (binop σ .Mult (.int x) (.int y)) := onO.mk (mul_ii σ x y h) k
theorem v_mod {σ : AH} {x y : Int} {K : Out → Prop} (h : y ≠ 0) (k : K (.v (.int (x.fmod y)))) : @Option.rec _ (fun _ => Prop) False K (binop σ .Mod (.int x) (.int y)) := onO.mk (mod_ii σ x y h) k
theorem v_div {σ : AH} {x y : Int} {K : Out → Prop} (h : y ≠ 0) (k : K (.v (.int (x.fdiv y)))) : @Option.rec _ (fun _ => Prop) False K (binop σ .FloorDiv (.int x) (.int y)) := onO.mk (div_ii σ x y h) k
theorem v_get {σ : AH} {a i : PV} {w : Out} {K : Out → Prop} (h : getAt σ a i = some w) (k : K w) : @Option.rec _ (fun _ => Prop) False K (getAt σ a i) := onO.mk h k
theorem v_bi {σ : AH} {b : BI} {l : List PV} {w : Out} {K : Out → Prop} (h : biP σ b l = some w) (k : K w) : @Option.rec _ (fun _ => Prop) False K (biP σ b l) := onO.mk h k
theorem v_cmp {σ : AH} {op : CmpOp} {a b : PV} {w : Bool} {K : Bool → Prop} (h : cmpP σ op a b = some w) (k : K w) : @Option.rec _ (fun _ => Prop) False K (cmpP σ op a b) := onO.mk h k
theorem v_cutP {σ : AH} {a i j : PV} {w : Out} {K : Out → Prop} (h : cutP σ a i j = some w) (k : K w) : @Option.rec _ (fun _ => Prop) False K (cutP σ a i j) := onO.mk h k
theorem v_cutF {σ : AH} {a i : PV} {w : Out} {K : Out → Prop} (h : cutF σ a i = some w) (k : K w) : @Option.rec _ (fun _ => Prop) False K (cutF σ a i) := onO.mk h k
theorem v_cutT {σ : AH} {a i : PV} {w : Out} {K : Out → Prop} (h : cutT σ a i = some w) (k : K w) : @Option.rec _ (fun _ => Prop) False K (cutT σ a i) := onO.mk h k
theorem v_bin {σ : AH} {op : Operator} {a b : PV} {w : Out} {K : Out → Prop} (h : binop σ op a b = some w) (k : K w) : @Option.rec _ (fun _ => Prop) False K (binop σ op a b) := onO.mk h k
theorem updO_some {ρ : Nv} {i : Nat} {v : PV} (h : Nat.blt i ρ.len = true) (hv : isU v = false) : updO ρ i v = some (.upd ρ i v) := by unfold updO; rw [h, hv]; rfl
theorem v_upd {ρ : Nv} {i : Nat} {v : PV} {K : Nv → Prop} (h : isU v = false) (q : Nat.blt i ρ.len = true) (k : K (.upd ρ i v)) : @Option.rec _ (fun _ => Prop) False K (updO ρ i v) := onO.mk (updO_some q h) k
noncomputable def forK (v : PV) (b : Bool) (ks : List Nat) (K : Flw → Nv → AH → Prop) (I : Nv → AH → Prop) : Flw → Nv → AH → Prop
  | .next, ρ, σ => I (killO ks ρ) σ
  | .cont, ρ, σ => I (killO ks ρ) σ
  | .brk, ρ, σ => K .next (killO ks ρ) (lockV σ v b)
  | .ret w, ρ, σ => K (.ret w) ρ (lockV σ v b)
inductive Like (I : Nv → AH → Prop) (ρ : Nv) (σ : AH) : Prop
  | mk (ρ0 : Nv) (h : den ρ = den ρ0) (k : I ρ0 σ) : Like I ρ σ
theorem forL_on {c : Cx} {body : PSs} {t : Tgt} {ks : List Nat} {v : PV} {b : Bool} {K : Flw → Nv → AH → Prop} {X : Str → AH → Prop} (I : Nat → Nv → AH → Prop) (hI : ∀ k ρ σ, I k ρ σ → okE ρ) (l : List PV) : ∀ (k : Nat) (ρp : List PV) (ρ : Nv) (σ : AH), kill ks ρp = den ρ →
    (∀ j x ρ σ, l[j]? = some x → I (k + j) ρ σ → onO (bindO t x ρ) fun ρ1 => vSs c body ρ1 σ (forK v b ks K (Like (I (k + j + 1)))) fun e σ' => X e (lockV σ' v b)) →
    I k ρ σ → (∀ ρ σ', I (k + l.length) ρ σ' → K .next ρ (lockV σ' v b)) → onS (unlock v b (forL (execs c body) t ks l ρp σ)) K X := by
  induction l with
  | nil => exact fun k ρp ρ σ he _ h hk => ⟨ρ, hI _ _ _ h, he, hk _ _ h⟩
  | cons x l ih =>
    intro k ρp ρ σ he hs h hk
    refine byC fun hZ => ?_
    obtain ⟨ρ1, h1, h2⟩ := onO_iff (hs 0 x ρ σ rfl h)
    obtain ⟨h3, h4⟩ := bindO_ok (hI _ _ _ h) h1
    refine hZ ?_; clear hZ
    have H := vSs_ok body ρ1 σ _ _ h3 h2
    rw [forL_c, he, h4]
    show onS (unlock v b ((execs c body (den ρ1) σ).bindX _)) K X
    generalize execs c body (den ρ1) σ = r at H
    cases r with
    | bad => exact H.elim
    | exc e σ' => exact H
    | ok p σ' =>
      refine byC fun hZ => ?_
      obtain ⟨ρ2, h5, h6, h7⟩ := H
      obtain ⟨f, ρ'⟩ := p
      refine hZ ?_; clear hZ
      cases h6
      have go : Like (I (k + 1)) (killO ks ρ2) σ' → onS (unlock v b (forL (execs c body) t ks l (den ρ2) σ')) K X := fun ⟨ρ3, e3, hI⟩ =>
        ih (k + 1) (den ρ2) ρ3 σ' (den_kill.symm.trans e3) (fun j y ρ σ hy hI => by
          have := hs (j + 1) y ρ σ hy (show I (k + j + 1) _ _ from Nat.add_right_comm k 1 j ▸ hI)
          rw [← Nat.add_assoc, Nat.add_right_comm k j 1] at this
          exact this) hI (fun ρ σ hI => hk ρ σ (show I (k + l.length + 1) _ _ from Nat.add_right_comm k 1 l.length ▸ hI))
      cases f with
      | next => exact go h7
      | cont => exact go h7
      | brk => exact ⟨_, h5.kill, den_kill.symm, h7⟩
      | ret w => exact ⟨_, h5, rfl, h7⟩
theorem vFor.inv {c : Cx} {body : PSs} {t : Tgt} {ks : List Nat} {l : List PV} {v : PV} {ρ : Nv} {σ : AH} {K : Flw → Nv → AH → Prop} {X : Str → AH → Prop} (I : Nat → Nv → AH → Prop) (hI : ∀ k ρ σ, I k ρ σ → okE ρ) (h0 : Like (I 0) (killO ks ρ) (lockV σ v true))
    (hs : ∀ k x ρ σ', l[k]? = some x → I k ρ σ' → onO (bindO t x ρ) fun ρ1 => vSs c body ρ1 σ' (forK v (lkV σ v) ks K (Like (I (k + 1)))) fun e σ' => X e (lockV σ' v (lkV σ v)))
    (hk : ∀ ρ σ', I l.length ρ σ' → K .next ρ (lockV σ' v (lkV σ v))) : vFor c body t ks l v ρ σ K X := fun _ =>
  let ⟨ρ0, e0, h0⟩ := h0
  forL_on I hI l 0 (den ρ) ρ0 _ (den_kill.symm.trans e0) (fun j x ρ σ' hx hI => by rw [Nat.zero_add] at hI ⊢; exact hs j x ρ σ' hx hI) h0 (fun ρ σ' hI => hk ρ σ' (Nat.zero_add l.length ▸ hI))
theorem vFor.const {c : Cx} {body : PSs} {t : Tgt} {ks : List Nat} {l : List PV} {v : PV} {ρ : Nv} {σ : AH} {K : Flw → Nv → AH → Prop} {X : Str → AH → Prop} (P : Nat → AH → Prop) (h0 : P 0 (lockV σ v true))
    (hs : ∀ k x σ', l[k]? = some x → P k σ' → onO (bindO t x (killO ks ρ)) fun ρ1 => vSs c body ρ1 σ' (forK v (lkV σ v) ks K (Like fun ρ' σ'' => ρ' = killO ks ρ ∧ P (k + 1) σ'')) fun e σ' => X e (lockV σ' v (lkV σ v)))
    (hk : ∀ σ', P l.length σ' → K .next (killO ks ρ) (lockV σ' v (lkV σ v))) : vFor c body t ks l v ρ σ K X := fun he =>
  vFor.inv (fun k ρ' σ' => ρ' = killO ks ρ ∧ P k σ') (fun _ _ _ h => h.1 ▸ he.kill) ⟨_, rfl, rfl, h0⟩ (fun k x ρ' σ' hx h => by obtain ⟨e, hp⟩ := h; subst e; exact hs k x σ' hx hp) (fun ρ' σ' h => by obtain ⟨e, hp⟩ := h; subst e; exact hk σ' hp) he
theorem vFor.listc {α : Type} {c : Cx} {body : PSs} {t : Tgt} {ks : List Nat} {l : List PV} {v : PV} {ρ : Nv} {σ : AH} {K : Flw → Nv → AH → Prop} {X : Str → AH → Prop} (el : α → PV) (xs : List α) (S : List α → AH) (hl : l = xs.map el) (h0 : lockV σ v true = S [])
    (hs : ∀ done x rest, done ++ x :: rest = xs → onO (bindO t (el x) (killO ks ρ)) fun ρ1 => vSs c body ρ1 (S done) (forK v (lkV σ v) ks K (Like fun ρ' σ'' => ρ' = killO ks ρ ∧ ∃ d r, d.length = done.length + 1 ∧ d ++ r = xs ∧ σ'' = S d)) fun e σ' => X e (lockV σ' v (lkV σ v)))
    (hk : K .next (killO ks ρ) (lockV (S xs) v (lkV σ v))) : vFor c body t ks l v ρ σ K X := by
  refine vFor.const (fun k σ' => ∃ d r, d.length = k ∧ d ++ r = xs ∧ σ' = S d) ⟨[], xs, rfl, rfl, h0⟩ (fun k x σ' hx hp => ?_) fun σ' hp => ?_
  · refine byC fun hZ => ?_
    obtain ⟨d, r, h1, h2, h3⟩ := hp
    refine hZ ?_; clear hZ
    subst h1 h3
    rw [hl, List.getElem?_map] at hx
    refine byC fun hZ => ?_
    obtain ⟨y, hy, e⟩ := Option.map_eq_some_iff.mp hx
    refine hZ ?_; clear hZ
    subst e
    refine hs d y (xs.drop (d.length + 1)) ?_
    rw [← h2, List.getElem?_append_right (Nat.le_refl _), Nat.sub_self] at hy
    cases r with
    | nil => cases hy
    | cons z r =>
      cases hy
      rw [← h2, List.drop_append, List.drop_eq_nil_of_le (Nat.le_succ _), Nat.add_sub_cancel_left]; rfl
  · refine byC fun hZ => ?_
    obtain ⟨d, r, h1, h2, h3⟩ := hp
    refine hZ ?_; clear hZ
    have : r = [] := by
      have e := congrArg List.length h2
      rw [List.length_append, h1, hl, List.length_map] at e
      exact List.eq_nil_of_length_eq_zero (Nat.add_left_cancel (e.trans (Nat.add_zero _).symm))
    subst this h3
    rw [List.append_nil] at h2
    subst h2
    exact hk
theorem vFor.list {α : Type} {c : Cx} {body : PSs} {t : Tgt} {ks : List Nat} {l : List PV} {v : PV} {ρ : Nv} {σ : AH} {K : Flw → Nv → AH → Prop} {X : Str → AH → Prop} (el : α → PV) (xs : List α) (R : List α → Nv) (hR : ∀ d, okE (R d)) (S : List α → AH) (hl : l = xs.map el) (hr : den (killO ks ρ) = den (R [])) (h0 : lockV σ v true = S [])
    (hs : ∀ done x rest, done ++ x :: rest = xs → onO (bindO t (el x) (R done)) fun ρ1 => vSs c body ρ1 (S done) (forK v (lkV σ v) ks K (Like fun ρ' σ'' => ∃ d r, d.length = done.length + 1 ∧ d ++ r = xs ∧ ρ' = R d ∧ σ'' = S d)) fun e σ' => X e (lockV σ' v (lkV σ v)))
    (hk : K .next (R xs) (lockV (S xs) v (lkV σ v))) : vFor c body t ks l v ρ σ K X := by
  refine vFor.inv (fun k ρ' σ' => ∃ d r, d.length = k ∧ d ++ r = xs ∧ ρ' = R d ∧ σ' = S d) (fun k ρ' σ' ⟨d, _, _, _, e, _⟩ => e ▸ hR d) ⟨_, hr, [], xs, rfl, rfl, rfl, h0⟩ (fun k x ρ' σ' hx hp => ?_) fun ρ' σ' hp => ?_
  · refine byC fun hZ => ?_
    obtain ⟨d, r, h1, h2, h3, h4⟩ := hp
    refine hZ ?_; clear hZ
    subst h1 h3 h4
    rw [hl, List.getElem?_map] at hx
    refine byC fun hZ => ?_
    obtain ⟨y, hy, e⟩ := Option.map_eq_some_iff.mp hx
    refine hZ ?_; clear hZ
    subst e
    refine hs d y (xs.drop (d.length + 1)) ?_
    rw [← h2, List.getElem?_append_right (Nat.le_refl _), Nat.sub_self] at hy
    cases r with
    | nil => cases hy
    | cons z r =>
      cases hy
      rw [← h2, List.drop_append, List.drop_eq_nil_of_le (Nat.le_succ _), Nat.add_sub_cancel_left]; rfl
  · refine byC fun hZ => ?_
    obtain ⟨d, r, h1, h2, h3, h4⟩ := hp
    refine hZ ?_; clear hZ
    have : r = [] := by
      have e := congrArg List.length h2
      rw [List.length_append, h1, hl, List.length_map] at e
      exact List.eq_nil_of_length_eq_zero (Nat.add_left_cancel (e.trans (Nat.add_zero _).symm))
    subst this h3 h4
    rw [List.append_nil] at h2
    subst h2
    exact hk
theorem turn_c {α : Type} {xs done : List α} {x : α} {rest : List α} {ρ ρ0 : Nv} {S : List α → AH} (he : done ++ x :: rest = xs) (h : den ρ = den ρ0) : Like (fun ρ' σ'' => ρ' = ρ0 ∧ ∃ d r, d.length = done.length + 1 ∧ d ++ r = xs ∧ σ'' = S d) ρ (S (done ++ [x])) :=
  ⟨ρ0, h, rfl, done ++ [x], rest, by rw [List.length_append]; rfl, by rw [List.append_assoc]; exact he, rfl⟩
theorem turn_l {α : Type} {xs done : List α} {x : α} {rest : List α} {ρ : Nv} {R : List α → Nv} {S : List α → AH} (he : done ++ x :: rest = xs) (h : den ρ = den (R (done ++ [x]))) : Like (fun ρ' σ'' => ∃ d r, d.length = done.length + 1 ∧ d ++ r = xs ∧ ρ' = R d ∧ σ'' = S d) ρ (S (done ++ [x])) :=
  ⟨_, h, done ++ [x], rest, by rw [List.length_append]; rfl, by rw [List.append_assoc]; exact he, rfl, rfl⟩
noncomputable def whK (ks : List Nat) (K : Flw → Nv → AH → Prop) (I : Nv → AH → Prop) : Flw → Nv → AH → Prop
  | .next, ρ, σ => I (killO ks ρ) σ
  | .cont, ρ, σ => I (killO ks ρ) σ
  | .brk, ρ, σ => K .next (killO ks ρ) σ
  | .ret w, ρ, σ => K (.ret w) ρ σ
theorem vWhile.inv {c : Cx} {t : PE} {body : PSs} {ks : List Nat} {K : Flw → Nv → AH → Prop} {X : Str → AH → Prop} (I : Nat → Nv → AH → Prop) (hI : ∀ k ρ σ, I k ρ σ → okE ρ)
    (hs : ∀ n ρ σ, I n ρ σ → vE c t 0 ρ σ fun b σ1 => onO (truth σ1 b) fun q => pick q (vSs c body ρ σ1 (whK ks K (Like fun ρ' σ' => ∃ m, m < n ∧ I m ρ' σ')) fun _ _ => False) (K .next ρ σ1))
    (n : Nat) {ρ : Nv} {σ : AH} (h0 : Like (I n) (killO ks ρ) σ) : vWhile c t body ks ρ σ K X := by
  have H : ∀ (n : Nat) (ρp : List PV) (ρ : Nv) (σ : AH), kill ks ρp = den ρ → I n ρ σ → ∃ k, onS (whileN (ev c t 0) (execs c body) ks k ρp σ) K X := by
    intro n
    induction n using Nat.strongRecOn with | _ n ih => ?_
    intro ρp ρ σ hp h
    have he := hI _ _ _ h
    refine byC fun hZ => ?_
    obtain ⟨b, σ1, e1, h1⟩ := onR_iff (vE_ok t 0 ρ σ _ he (hs n _ σ h))
    obtain ⟨q, e2, h2⟩ := onO_iff h1
    refine hZ ?_; clear hZ
    rw [← hp] at e1
    cases q with
    | false =>
      refine ⟨1, ?_⟩
      rw [whileN_c, e1]
      show onS (match truth σ1 b with | some true => _ | some false => _ | none => _) K X
      rw [e2]
      exact ⟨_, he, hp, h2⟩
    | true =>
      have H := vSs_ok body _ σ1 _ _ he h2
      rw [← hp] at H
      have step : ∀ k, whileN (ev c t 0) (execs c body) ks (k + 1) ρp σ = (execs c body (kill ks ρp) σ1).bind fun r σ2 => match r.1 with
        | .next => whileN (ev c t 0) (execs c body) ks k r.2 σ2
        | .cont => whileN (ev c t 0) (execs c body) ks k r.2 σ2
        | .brk => .ok (.next, kill ks r.2) σ2
        | .ret v => .ok (.ret v, r.2) σ2 := fun k => by
        rw [whileN_c, e1]
        show (match truth σ1 b with | some true => _ | some false => _ | none => _) = _
        rw [e2]
        all_goals rfl
      generalize execs c body (kill ks ρp) σ1 = r at H step
      cases r with
      | bad => exact H.elim
      | exc e σ' => exact H.elim
      | ok p σ' =>
        refine byC fun hZ => ?_
        obtain ⟨ρ2, h5, h6, h7⟩ := H
        obtain ⟨f, ρ'⟩ := p
        refine hZ ?_; clear hZ
        cases h6
        have go : Like (fun ρ' σ' => ∃ m, m < n ∧ I m ρ' σ') (killO ks ρ2) σ' → ∃ k, onS (whileN (ev c t 0) (execs c body) ks k (den ρ2) σ') K X := fun ⟨ρ3, e3, m, hm, hI⟩ => ih m hm (den ρ2) ρ3 σ' (den_kill.symm.trans e3) hI
        cases f with
        | next => obtain ⟨k, hk⟩ := go h7; exact ⟨k + 1, by rw [step]; exact hk⟩
        | cont => obtain ⟨k, hk⟩ := go h7; exact ⟨k + 1, by rw [step]; exact hk⟩
        | brk => exact ⟨1, by rw [step]; exact ⟨_, h5.kill, den_kill.symm, h7⟩⟩
        | ret w => exact ⟨1, by rw [step]; exact ⟨_, h5, rfl, h7⟩⟩
  intro _
  refine byC fun hZ => ?_
  obtain ⟨ρ0, e0, h0⟩ := h0
  obtain ⟨k, hk⟩ := H n (den ρ) ρ0 σ (den_kill.symm.trans e0) h0
  refine hZ ?_; clear hZ
  rw [whileW_of rfl (fun e => by rw [e] at hk; exact hk)]
  exact hk
theorem compL_pureV {α : Type} {c : Cx} {cond elt : PE} {m : Nat} {t : Tgt} {ρ : Nv} (he : okE ρ) {σ : AH} (el : α → PV) (p : α → Bool) (o : α → PV) : ∀ (xs : List α)
    (_ : ∀ x ∈ xs, onO (bindO t (el x) ρ) fun ρ1 => (vE c cond 0 ρ1 σ fun b σ1 => σ1 = σ ∧ b = .bool (p x)) ∧ (p x = true → vE c elt m ρ1 σ fun v σ1 => σ1 = σ ∧ v = o x)), compL (ev c cond 0) (ev c elt m) t (den ρ) (xs.map el) σ = .ok ((xs.filter p).map o) σ
  | [], _ => rfl
  | x :: xs, hb => by
    refine byC fun hZ => ?_
    obtain ⟨ρ1, h1, h2, h3⟩ := onO_iff (hb x List.mem_cons_self)
    obtain ⟨h4, h5⟩ := bindO_ok he h1
    have ih := compL_pureV he el p o xs fun y hy => hb y (List.mem_cons_of_mem _ hy)
    obtain ⟨b, σ1, e1, e2, e3⟩ := onR_iff (vE_ok cond 0 ρ1 σ _ h4 h2)
    refine hZ ?_; clear hZ
    subst e2 e3
    rw [List.map_cons, compL_c, h5]
    show (ev c cond 0 (den ρ1) _).bind _ = _
    rw [e1]
    show (match some (p x) with | some true => _ | some false => _ | none => _) = _
    cases hp : p x with
    | true =>
      refine byC fun hZ => ?_
      obtain ⟨v, σ1, e1, e2, e3⟩ := onR_iff (vE_ok elt m ρ1 _ _ h4 (h3 hp))
      refine hZ ?_; clear hZ
      subst e2 e3
      show (ev c elt m (den ρ1) _).bindX _ = _
      rw [e1]
      show (compL _ _ _ _ _ _).bindX _ = _
      rw [ih, List.filter_cons, hp]; rfl
    | false =>
      show compL _ _ _ _ _ _ = _
      rw [ih, List.filter_cons, hp]; rfl
theorem vComp.pure {α : Type} {c : Cx} {cond elt : PE} {m : Nat} {t : Tgt} {l : List PV} {v : PV} {ρ : Nv} {σ : AH} {K : PV → AH → Prop} (el : α → PV) (p : α → Bool) (o : α → PV) (xs : List α) (hl : l = xs.map el) (hlk : lockV σ v true = σ) (hlu : lockV σ v (lkV σ v) = σ)
    (hb : ∀ x ∈ xs, onO (bindO t (el x) (killO (tgtSlots t) ρ)) fun ρ1 => (vE c cond 0 ρ1 σ fun b σ1 => σ1 = σ ∧ b = .bool (p x)) ∧ (p x = true → vE c elt m.pred ρ1 σ fun v σ1 => σ1 = σ ∧ v = o x))
    (hsm : small xs.length = true) (k : onR (box m (.list ((xs.filter p).map o)) σ) K) : vComp c cond elt m t l v ρ σ K := by
  intro he
  rw [hl, hlk, ← den_kill, compL_pureV he.kill el p o xs hb]
  show _ ∧ onR (.ok _ (lockV σ v (lkV σ v))) _
  rw [hlu]
  exact ⟨by rw [List.length_map]; exact hsm, k⟩
theorem vCompX.of {c : Cx} {cond elt : PE} {m : Nat} {t : Tgt} {l : List PV} {v : PV} {ρ : Nv} {σ : AH} {K : PV → AH → Prop} {X : KX} (h : vComp c cond elt m t l v ρ σ K) : vCompX c cond elt m t l v ρ σ K X := fun he => ⟨(h he).1, onX.of (h he).2⟩
theorem compL_opt {α : Type} {c : Cx} {cond elt : PE} {m : Nat} {t : Tgt} {ρ : Nv} (he : okE ρ) {σ : AH} {k : Str} (el : α → PV) (g : α → Option PV) : ∀ (xs : List α)
    (_ : ∀ x ∈ xs, onO (bindO t (el x) ρ) fun ρ1 => (vE c cond 0 ρ1 σ fun b σ1 => σ1 = σ ∧ b = .bool true) ∧ vEX c elt (fun y σ1 => g x = none ∧ y = k ∧ σ1 = σ) m ρ1 σ fun v σ1 => σ1 = σ ∧ g x = some v), compL (ev c cond 0) (ev c elt m) t (den ρ) (xs.map el) σ = match xs.mapM g with
      | some vs => .ok vs σ
      | none => .exc k σ
  | [], _ => rfl
  | x :: xs, hb => by
    obtain ⟨ρ1, h1, h2, h3⟩ := onO_iff (hb x List.mem_cons_self)
    obtain ⟨h4, h5⟩ := bindO_ok he h1
    have ih := compL_opt he el g xs fun y hy => hb y (List.mem_cons_of_mem _ hy)
    obtain ⟨b, σ1, e1, e2, e3⟩ := onR_iff (vE_ok cond 0 ρ1 σ _ h4 h2)
    subst e2 e3
    rw [List.map_cons, compL_c, h5]
    show (ev c cond 0 (den ρ1) _).bind _ = _
    rw [e1]
    show (ev c elt m (den ρ1) _).bindX _ = _
    have H := vEX_ok elt _ m ρ1 _ _ h4 h3
    rw [List.mapM_cons]
    cases hr : ev c elt m (den ρ1) σ1 with
    | bad => rw [hr] at H; exact H.elim
    | exc y σ2 =>
      rw [hr] at H
      obtain ⟨q1, q2, q3⟩ := (H : g x = none ∧ y = k ∧ σ2 = σ1)
      rw [q1, q2, q3]; rfl
    | ok v σ2 =>
      rw [hr] at H
      obtain ⟨q1, q2⟩ := (H : σ2 = σ1 ∧ g x = some v)
      subst q1
      rw [q2]
      show (compL _ _ _ _ _ _).bindX _ = _
      rw [ih]
      cases xs.mapM g <;> rfl
end Mine

set_option autoImplicit false
set_option backward.match.sparseCases false
set_option linter.unusedVariables false
namespace Mine
open PySem
noncomputable def takeP : Nat → PSs → PSs
  | 0, _ => .nil
  | n + 1, ss => match ss with
    | .nil => .nil
    | .cons s ss => .cons s (takeP n ss)
noncomputable def dropP : Nat → PSs → PSs
  | 0, ss => ss
  | n + 1, ss => match ss with
    | .nil => .nil
    | .cons s ss => dropP n ss
inductive Cut (J : Nv → AH → Prop) : Flw → Nv → AH → Prop
  | mk {ρ : Nv} {σ : AH} (ρ1 : Nv) (h : den ρ = den ρ1) (ok : okE ρ1) (j : J ρ1 σ) : Cut J .next ρ σ
theorem on_cut {c : Cx} {K : Flw → Nv → AH → Prop} {X : Str → AH → Prop} {J : Nv → AH → Prop} : ∀ (n : Nat) (body : PSs) {ρ : List PV} {σ : AH}, onS (execs c (takeP n body) ρ σ) (Cut J) X →
    (∀ ρ1 σ1, okE ρ1 → J ρ1 σ1 → onS (execs c (dropP n body) (den ρ1) σ1) K X) → onS (execs c body ρ σ) K X
  | 0, body, ρ, σ, h, k => by
    obtain ⟨ρ1, _, e, hj⟩ := (h : ∃ ρ1 : Nv, okE ρ1 ∧ ρ = den ρ1 ∧ Cut J .next ρ1 σ)
    cases hj with
    | mk ρ2 h2 ok j => rw [show ρ = den ρ1 from e, h2]; exact k ρ2 σ ok j
  | n + 1, .nil, ρ, σ, h, k => by
    obtain ⟨ρ1, _, e, hj⟩ := (h : ∃ ρ1 : Nv, okE ρ1 ∧ ρ = den ρ1 ∧ Cut J .next ρ1 σ)
    cases hj with
    | mk ρ2 h2 ok j => rw [show ρ = den ρ1 from e, h2]; exact k ρ2 σ ok j
  | n + 1, .cons s ss, ρ, σ, h, k => by
    have h : onS ((exec c s ρ σ).bindX fun r σ1 => match r.1 with
      | .next => execs c (takeP n ss) r.2 σ1
      | f => .ok (f, r.2) σ1) (Cut J) X := h
    show onS ((exec c s ρ σ).bindX fun r σ1 => match r.1 with
      | .next => execs c ss r.2 σ1
      | f => .ok (f, r.2) σ1) K X
    generalize exec c s ρ σ = r at h
    cases r with
    | bad => exact h
    | exc e σ' => exact h
    | ok p σ' =>
      obtain ⟨f, ρ'⟩ := p
      cases f with
      | next => exact on_cut n ss h k
      | brk => obtain ⟨ρ1, _, _, hj⟩ := h; cases hj
      | cont => obtain ⟨ρ1, _, _, hj⟩ := h; cases hj
      | ret v => obtain ⟨ρ1, _, _, hj⟩ := h; cases hj
theorem run_on {G : Glob} {d : Nat} {f : Str} {F : Fn} {args : List PV} {σ : AH} {R : Res PV} (hF : G.fn f = some F) (hn : args.length = F.nargs) (hs : Nat.ble F.nargs F.slots = true) (hu : uAll args = true)
    (h : ∀ c : Cx, At G d c → okE (.ini F.slots (args.map some)) → onS (execs c F.body (den (.ini F.slots (args.map some))) σ) (fun f _ σ' => left F.keep σ (.ok (f, []) σ') = R) (fun k σ' => left F.keep σ (.exc k σ') = R)) : callD G (d + 1) f args σ = R := by
  have H := h ⟨G.const, callD G d, G.isa, G.atr⟩ ⟨fun _ _ _ => rfl, fun _ => rfl, rfl, fun _ => rfl⟩ (args_ok hu)
  rw [den_args (hn ▸ Nat.le_of_ble_eq_true hs), hn] at H
  have e : callD G (d + 1) f args σ = left F.keep σ (execs ⟨G.const, callD G d, G.isa, G.atr⟩ F.body (args ++ List.replicate (F.slots - F.nargs) .undef) σ) := by
    show (match G.fn f with
      | some F => runFn ⟨G.const, callD G d, G.isa, G.atr⟩ F args σ
      | none => .bad) = _
    rw [hF]
    exact if_pos hn
  rw [e]
  generalize execs ⟨G.const, callD G d, G.isa, G.atr⟩ F.body (args ++ List.replicate (F.slots - F.nargs) .undef) σ = r at H ⊢
  cases r with
  | bad => exact H.elim
  | exc k σ' => exact H
  | ok p σ' =>
    obtain ⟨ρ, _, _, h⟩ := H
    obtain ⟨f, ρ'⟩ := p
    rw [show left F.keep σ (.ok (f, ρ') σ') = left F.keep σ (.ok (f, []) σ') by cases F.keep <;> rfl]
    exact h
noncomputable def oAll : List (Option PV) → Bool
  | [] => true
  | o :: l => match o with
    | none => oAll l
    | some v => bif isU v then false else oAll l
theorem okE_l {n : Nat} : ∀ {l : List (Option PV)}, oAll l = true → okE (.ini n l)
  | [], _, i, v, h => nomatch (show (none : Option PV) = some v from h)
  | none :: l, hl, i, v, h => by
    cases i with
    | zero => cases (show (none : Option PV) = some v from h)
    | succ i => exact okE_l (n := n) (l := l) hl i v h
  | some w :: l, hl, i, v, h => by
    have hl : (bif isU w then false else oAll l) = true := hl
    cases e : isU w with
    | true => rw [e] at hl; cases hl
    | false =>
      rw [e] at hl
      cases i with
      | zero => cases (show some w = some v from h); exact e
      | succ i => exact okE_l (n := n) (l := l) hl i v h
theorem hand_ {G : Glob} {d : Nat} {c : Cx} {k e : Str} {hs : HSs} {ρ : Nv} {K : Flw → Nv → AH → Prop} {σ : AH} {v : PV} (a : At G d c) (h1 : isT G.isa e k = some true) (h2 : hsuite G.isa e hs = some v) (q : K (.ret v) (hide ρ) σ) : vHand c k hs ρ K e σ := by
  unfold vHand
  rw [a.isa, h1, h2]
  exact q
end Mine

set_option autoImplicit false
set_option maxRecDepth 100000
set_option linter.unusedSimpArgs false
set_option linter.unusedVariables false
set_option exponentiation.threshold 2000
namespace Mine
open PySem
noncomputable def F_divisor : Fn := ⟨2, 5,
  (.cons (.assign 2 0 (.bi .abs (.cons (.loc 0) .nil)))
  (.cons (.assign 3 0 (.bi .abs (.cons (.loc 1) .nil)))
  (.cons (.whileS (.cmp .Gt (.loc 3) (.const (.int 0)))
    (.cons (.assign 4 0 (.bin .Mod (.loc 2) (.loc 3)))
    (.cons (.assign 2 0 (.loc 3))
    (.cons (.assign 3 0 (.loc 4))
    .nil))) [4])
  (.cons (.ret 0 (.loc 2))
  .nil)))), false⟩
noncomputable def F_fraction : Fn := ⟨2, 3,
  (.cons (.ite (.cmp .Eq (.loc 1) (.const (.int 0)))
    (.cons (.raise "ByNought" "by nought")
    .nil)
    .nil)
  (.cons (.assign 2 0 (.call "divisor" (.cons (.loc 0) (.cons (.loc 1) .nil))))
  (.cons (.ite (.cmp .Lt (.loc 1) (.const (.int 0)))
    (.cons (.assign 2 0 (.bin .Sub (.const (.int 0)) (.loc 2)))
    .nil)
    .nil)
  (.cons (.ret 0 (.tup (.cons (.bin .FloorDiv (.loc 0) (.loc 2)) (.cons (.bin .FloorDiv (.loc 1) (.loc 2)) .nil))))
  .nil)))), false⟩
noncomputable def F_product : Fn := ⟨2, 2,
  (.cons (.ret 0 (.call "fraction" (.cons (.bin .Mult (.idx (.loc 0) (.const (.int 0))) (.idx (.loc 1) (.const (.int 0)))) (.cons (.bin .Mult (.idx (.loc 0) (.const (.int 1))) (.idx (.loc 1) (.const (.int 1)))) .nil))))
  .nil), false⟩
noncomputable def F_quotient : Fn := ⟨2, 2,
  (.cons (.ret 0 (.call "fraction" (.cons (.bin .Mult (.idx (.loc 0) (.const (.int 0))) (.idx (.loc 1) (.const (.int 1)))) (.cons (.bin .Mult (.idx (.loc 0) (.const (.int 1))) (.idx (.loc 1) (.const (.int 0)))) .nil))))
  .nil), false⟩
noncomputable def F_raised : Fn := ⟨2, 4,
  (.cons (.ite (.cmp .Lt (.loc 1) (.const (.int 0)))
    (.cons (.ret 0 (.call "quotient" (.cons (.tup (.cons (.const (.int 1)) (.cons (.const (.int 1)) .nil))) (.cons (.call "raised" (.cons (.loc 0) (.cons (.bin .Sub (.const (.int 0)) (.loc 1)) .nil))) .nil))))
    .nil)
    .nil)
  (.cons (.assign 2 0 (.tup (.cons (.const (.int 1)) (.cons (.const (.int 1)) .nil))))
  (.cons (.assign 3 0 (.loc 0))
  (.cons (.whileS (.cmp .Gt (.loc 1) (.const (.int 0)))
    (.cons (.ite (.cmp .Eq (.bin .Mod (.loc 1) (.const (.int 2))) (.const (.int 1)))
      (.cons (.assign 2 0 (.call "product" (.cons (.loc 2) (.cons (.loc 3) .nil))))
      .nil)
      .nil)
    (.cons (.assign 1 0 (.bin .FloorDiv (.loc 1) (.const (.int 2))))
    (.cons (.ite (.cmp .Gt (.loc 1) (.const (.int 0)))
      (.cons (.assign 3 0 (.call "product" (.cons (.loc 3) (.cons (.loc 3) .nil))))
      .nil)
      .nil)
    .nil))) [])
  (.cons (.ret 0 (.loc 2))
  .nil))))), false⟩
noncomputable def F_parts_of : Fn := ⟨1, 1,
  (.cons (.ret 0 (.bi .list (.cons (.sliceFT (.loc 0) (.const (.int 1)) (.bin .Add (.const (.int 1)) (.idx (.glob "PARTS") (.idx (.loc 0) (.const (.int 0)))))) .nil)))
  .nil), false⟩
noncomputable def F_scale : Fn := ⟨2, 5,
  (.cons (.assign 2 0 (.tup (.cons (.const (.int 1)) (.cons (.const (.int 1)) .nil))))
  (.cons (.forS (.many [3, 4]) (.loc 0)
    (.cons (.ite (.cmp .NotIn (.loc 3) (.loc 1))
      (.cons (.raise "NoValue" "a letter without a unit")
      .nil)
      .nil)
    (.cons (.assign 2 0 (.call "product" (.cons (.loc 2) (.cons (.call "raised" (.cons (.idx (.loc 1) (.loc 3)) (.cons (.loc 4) .nil))) .nil))))
    .nil)) [3, 4])
  (.cons (.ret 0 (.loc 2))
  .nil))), false⟩
noncomputable def F_retold : Fn := ⟨2, 4,
  (.cons (.ite (.cmp .Eq (.idx (.loc 0) (.const (.int 0))) (.const (.str "is")))
    (.cons (.ret 0 (.tup (.cons (.const (.str "is")) (.cons (.call "product" (.cons (.idx (.loc 0) (.const (.int 1))) (.cons (.call "scale" (.cons (.idx (.loc 0) (.const (.int 2))) (.cons (.loc 1) .nil))) .nil))) (.cons (.idx (.loc 0) (.const (.int 2))) .nil)))))
    .nil)
    .nil)
  (.cons (.assign 2 0 (.comp (.call "retold" (.cons (.loc 3) (.cons (.loc 1) .nil))) (.one 3) (.call "parts_of" (.cons (.loc 0) .nil)) (.const (.bool true))))
  (.cons (.ret 0 (.bin .Add (.bin .Add (.tup (.cons (.idx (.loc 0) (.const (.int 0))) .nil)) (.bi .tuple (.cons (.loc 2) .nil))) (.sliceF (.loc 0) (.bin .Add (.const (.int 1)) (.bi .len (.cons (.loc 2) .nil))))))
  .nil))), false⟩
noncomputable def F_rescaled : Fn := ⟨3, 5,
  (.cons (.assign 3 1 .edict)
  (.cons (.forS (.one 4) (.loc 1)
    (.cons (.ite (.cmp .NotIn (.loc 4) (.loc 0))
      (.cons (.raise "NoValue" "an input without a value")
      .nil)
      .nil)
    (.cons (.setitem (.loc 3) (.loc 4) 0 (.call "product" (.cons (.idx (.loc 0) (.loc 4)) (.cons (.call "scale" (.cons (.idx (.loc 1) (.loc 4)) (.cons (.loc 2) .nil))) .nil))))
    .nil)) [4])
  (.cons (.ret 0 (.loc 3))
  .nil))), false⟩
noncomputable def F_law_cell_at : Fn := ⟨2, 2,
  (.cons (.ite (.cmp .Lt (.loc 1) (.bi .len (.cons (.loc 0) .nil)))
    (.cons (.ret 0 (.bin .Mod (.idx (.loc 0) (.loc 1)) (.const (.int 1000000000000000003))))
    .nil)
    .nil)
  (.cons (.ret 0 (.const (.int 0)))
  .nil)), false⟩
noncomputable def F_law_mix : Fn := ⟨2, 3,
  (.cons (.assign 2 0 (.bin .Mod (.bin .Add (.bin .Add (.bin .Mult (.loc 0) (.const (.int 48271))) (.bin .Mult (.loc 1) (.const (.int 69621)))) (.const (.int 11))) (.const (.int 2147483647))))
  (.cons (.ret 0 (.bin .Mod (.bin .Add (.bin .Add (.bin .Mult (.loc 2) (.loc 2)) (.bin .Mult (.const (.int 7)) (.loc 2))) (.loc 1)) (.const (.int 2147483629))))
  .nil)), false⟩
noncomputable def F_law_words : Fn := ⟨2, 11,
  (.cons (.assign 2 0 (.const (.str "abcdefghijklmnopqrstuvwxyz")))
  (.cons (.assign 3 0 (.bin .Add (.const (.int 1)) (.bin .Mod (.loc 0) (.const (.int 8)))))
  (.cons (.assign 4 0 (.bin .Mod (.bin .FloorDiv (.loc 0) (.const (.int 8))) (.loc 3)))
  (.cons (.assign 5 0 (.idx (.loc 2) (.bin .Mod (.bin .FloorDiv (.loc 0) (.const (.int 64))) (.const (.int 26)))))
  (.cons (.assign 6 0 (.bin .Mod (.bin .FloorDiv (.loc 0) (.const (.int 3))) (.const (.int 4))))
  (.cons (.assign 7 1 (.lst .nil))
  (.cons (.forS (.one 8) (.bi .range (.cons (.loc 1) .nil))
    (.cons (.assign 9 0 (.idx (.loc 2) (.bin .Mod (.bin .Add (.bin .FloorDiv (.loc 0) (.const (.int 1664))) (.bin .Mult (.const (.int 5)) (.loc 8))) (.const (.int 26)))))
    (.cons (.assign 10 0 (.bin .Add (.bin .Add (.bin .Mult (.loc 5) (.loc 4)) (.loc 9)) (.bin .Mult (.loc 5) (.bin .Sub (.bin .Sub (.loc 3) (.const (.int 1))) (.loc 4)))))
    (.cons (.ite (.cmp .Eq (.loc 6) (.const (.int 0)))
      (.cons (.assign 10 0 (.bin .Add (.loc 9) (.bin .Mult (.loc 5) (.bin .Mod (.bin .Add (.bin .Mult (.const (.int 3)) (.loc 8)) (.bin .FloorDiv (.loc 0) (.const (.int 9)))) (.const (.int 8))))))
      .nil)
      .nil)
    (.cons (.ite (.andE (.cons (.cmp .Eq (.loc 6) (.const (.int 1))) (.cons (.cmp .Lt (.loc 8) (.const (.int 8))) .nil)))
      (.cons (.assign 10 0 (.bin .Mult (.loc 5) (.bin .Add (.const (.int 1)) (.bin .Mod (.bin .Add (.bin .Mult (.const (.int 3)) (.loc 8)) (.bin .FloorDiv (.loc 0) (.const (.int 9)))) (.const (.int 8))))))
      .nil)
      .nil)
    (.cons (.ite (.andE (.cons (.cmp .Eq (.loc 6) (.const (.int 1))) (.cons (.cmp .Gt (.loc 8) (.const (.int 7))) .nil)))
      (.cons (.assign 10 0 (.bin .Add (.idx (.loc 2) (.bin .Mod (.bin .Sub (.bin .Add (.bin .FloorDiv (.loc 0) (.const (.int 64))) (.loc 8)) (.const (.int 7))) (.const (.int 26)))) (.bin .Mult (.loc 5) (.bin .Mod (.loc 8) (.const (.int 8))))))
      .nil)
      .nil)
    (.cons (.expr (.meth (.loc 7) .append (.cons (.loc 10) .nil)))
    .nil)))))) [8, 9, 10])
  (.cons (.ret 0 (.loc 7))
  .nil)))))))), false⟩
noncomputable def F_law_made : Fn := ⟨1, 2,
  (.cons (.ret 0 (.bi .tuple (.cons (.comp (.tup (.cons (.loc 1) (.cons (.idx (.loc 0) (.loc 1)) .nil))) (.one 1) (.bi .sorted (.cons (.loc 0) .nil)) (.cmp .NotEq (.idx (.loc 0) (.loc 1)) (.const (.int 0)))) .nil)))
  .nil), false⟩
noncomputable def F_law_small : Fn := ⟨2, 6,
  (.cons (.assign 2 1 .edict)
  (.cons (.forS (.one 3) (.bi .range (.cons (.bin .Mod (.loc 0) (.const (.int 4))) .nil))
    (.cons (.assign 4 0 (.call "_law_mix" (.cons (.loc 0) (.cons (.loc 3) .nil))))
    (.cons (.assign 5 0 (.idx (.lst (.cons (.bin .Sub (.bin .Mod (.bin .FloorDiv (.loc 4) (.bi .len (.cons (.loc 1) .nil))) (.const (.int 5))) (.const (.int 2))) (.cons (.bin .Sub (.bin .Mod (.bin .FloorDiv (.loc 4) (.const (.int 256))) (.const (.int 41))) (.const (.int 20))) .nil))) (.bin .FloorDiv (.bin .Mod (.bin .FloorDiv (.loc 4) (.const (.int 16))) (.const (.int 9))) (.const (.int 8)))))
    (.cons (.setitem (.loc 2) (.idx (.loc 1) (.bin .Mod (.loc 4) (.bi .len (.cons (.loc 1) .nil)))) 0 (.loc 5))
    .nil))) [3, 4, 5])
  (.cons (.ret 0 (.call "_law_made" (.cons (.loc 2) .nil)))
  .nil))), false⟩
noncomputable def F_law_shared : Fn := ⟨2, 3,
  (.cons (.whileS (.cmp .NotEq (.loc 1) (.const (.int 0)))
    (.cons (.assign 2 0 (.bin .Mod (.loc 0) (.loc 1)))
    (.cons (.assign 0 0 (.loc 1))
    (.cons (.assign 1 0 (.loc 2))
    .nil))) [2])
  (.cons (.ret 0 (.loc 0))
  .nil)), false⟩
noncomputable def F_law_lowest : Fn := ⟨2, 3,
  (.cons (.assign 2 0 (.call "_law_shared" (.cons (.bi .abs (.cons (.loc 0) .nil)) (.cons (.bi .abs (.cons (.loc 1) .nil)) .nil))))
  (.cons (.ite (.cmp .Lt (.loc 1) (.const (.int 0)))
    (.cons (.assign 2 0 (.bin .Sub (.const (.int 0)) (.loc 2)))
    .nil)
    .nil)
  (.cons (.ret 0 (.tup (.cons (.bin .FloorDiv (.loc 0) (.loc 2)) (.cons (.bin .FloorDiv (.loc 1) (.loc 2)) .nil))))
  .nil))), false⟩
noncomputable def F_law_number : Fn := ⟨1, 1,
  (.cons (.ite (.cmp .Lt (.bin .Mod (.loc 0) (.const (.int 6))) (.const (.int 4)))
    (.cons (.ret 0 (.call "_law_lowest" (.cons (.bin .Sub (.bin .Mod (.bin .FloorDiv (.loc 0) (.const (.int 6))) (.const (.int 41))) (.const (.int 20))) (.cons (.bin .Add (.const (.int 1)) (.bin .Mod (.bin .FloorDiv (.loc 0) (.const (.int 246))) (.const (.int 5)))) .nil))))
    .nil)
    .nil)
  (.cons (.ite (.cmp .Eq (.bin .Mod (.loc 0) (.const (.int 6))) (.const (.int 4)))
    (.cons (.ret 0 (.tup (.cons (.const (.int 0)) (.cons (.const (.int 1)) .nil))))
    .nil)
    .nil)
  (.cons (.ret 0 (.call "_law_lowest" (.cons (.bin .Sub (.bin .Mod (.bin .Mult (.bin .FloorDiv (.loc 0) (.bin .Pow (.const (.int 6)) (.const (.int 3)))) (.const (.int 7))) (.bin .Add (.bin .Mult (.const (.int 2)) (.bin .Pow (.const (.int 10)) (.const (.int 9)))) (.const (.int 1)))) (.bin .Pow (.const (.int 10)) (.const (.int 9)))) (.cons (.bin .Add (.const (.int 1)) (.bin .Mod (.bin .FloorDiv (.loc 0) (.const (.int 6))) (.bin .Pow (.const (.int 10)) (.const (.int 9))))) .nil))))
  .nil))), false⟩
noncomputable def F_law_leaf : Fn := ⟨3, 4,
  (.cons (.assign 3 0 (.bin .FloorDiv (.loc 0) (.const (.int 6))))
  (.cons (.ite (.cmp .Lt (.bin .Mod (.loc 0) (.const (.int 6))) (.const (.int 3)))
    (.cons (.ret 0 (.tup (.cons (.const (.str "input")) (.cons (.idx (.loc 1) (.bin .Mod (.loc 3) (.bi .len (.cons (.loc 1) .nil)))) .nil))))
    .nil)
    .nil)
  (.cons (.ite (.cmp .Eq (.bin .Mod (.loc 0) (.const (.int 6))) (.const (.int 3)))
    (.cons (.ret 0 (.tup (.cons (.const (.str "nought")) .nil)))
    .nil)
    .nil)
  (.cons (.ret 0 (.tup (.cons (.const (.str "is")) (.cons (.call "_law_number" (.cons (.call "_law_mix" (.cons (.loc 3) (.cons (.const (.int 9)) .nil))) .nil)) (.cons (.call "_law_small" (.cons (.loc 3) (.cons (.loc 2) .nil))) .nil)))))
  .nil)))), false⟩
noncomputable def F_law_tree : Fn := ⟨4, 8,
  (.cons (.assign 4 0 (.bin .Mod (.loc 0) (.const (.int 9))))
  (.cons (.ite (.orE (.cons (.cmp .Lt (.loc 1) (.const (.int 1))) (.cons (.cmp .Lt (.loc 4) (.const (.int 2))) .nil)))
    (.cons (.ret 0 (.call "_law_leaf" (.cons (.bin .FloorDiv (.loc 0) (.const (.int 9))) (.cons (.idx (.loc 2) (.const (.int 0))) (.cons (.idx (.loc 2) (.const (.int 1))) .nil)))))
    .nil)
    .nil)
  (.cons (.assign 5 0 (.call "_law_tree" (.cons (.call "_law_mix" (.cons (.loc 0) (.cons (.const (.int 1)) .nil))) (.cons (.bin .Sub (.loc 1) (.const (.int 1))) (.cons (.loc 2) (.cons (.bin .Sub (.loc 3) (.bin .FloorDiv (.loc 4) (.const (.int 8)))) .nil))))))
  (.cons (.ite (.andE (.cons (.cmp .Eq (.loc 4) (.const (.int 8))) (.cons (.cmp .Gt (.loc 3) (.const (.int 0))) .nil)))
    (.cons (.ret 0 (.tup (.cons (.const (.str "power")) (.cons (.loc 5) (.cons (.bin .Sub (.bin .Mod (.bin .FloorDiv (.loc 0) (.const (.int 9))) (.const (.int 9))) (.const (.int 4))) .nil)))))
    .nil)
    .nil)
  (.cons (.assign 6 0 (.call "_law_tree" (.cons (.call "_law_mix" (.cons (.loc 0) (.cons (.const (.int 2)) .nil))) (.cons (.bin .Sub (.loc 1) (.const (.int 1))) (.cons (.loc 2) (.cons (.loc 3) .nil))))))
  (.cons (.ite (.cmp .Eq (.loc 4) (.const (.int 7)))
    (.cons (.assign 7 0 (.call "_law_tree" (.cons (.call "_law_mix" (.cons (.loc 0) (.cons (.const (.int 3)) .nil))) (.cons (.bin .Sub (.loc 1) (.const (.int 2))) (.cons (.loc 2) (.cons (.loc 3) .nil))))))
    (.cons (.ret 0 (.tup (.cons (.const (.str "less")) (.cons (.loc 5) (.cons (.loc 6) (.cons (.loc 7) (.cons (.call "_law_tree" (.cons (.call "_law_mix" (.cons (.loc 0) (.cons (.const (.int 4)) .nil))) (.cons (.bin .Sub (.loc 1) (.const (.int 2))) (.cons (.loc 2) (.cons (.loc 3) .nil))))) .nil)))))))
    .nil))
    .nil)
  (.cons (.ret 0 (.tup (.cons (.idx (.lst (.cons (.const (.str "plus")) (.cons (.const (.str "minus")) (.cons (.const (.str "times")) (.cons (.const (.str "over")) .nil))))) (.bin .Mod (.bin .FloorDiv (.loc 0) (.const (.int 9))) (.const (.int 4)))) (.cons (.loc 5) (.cons (.loc 6) .nil)))))
  .nil))))))), false⟩
noncomputable def F_law_parts : Fn := ⟨1, 1,
  (.cons (.ite (.orE (.cons (.cmp .Eq (.idx (.loc 0) (.const (.int 0))) (.const (.str "is"))) (.cons (.cmp .Eq (.idx (.loc 0) (.const (.int 0))) (.const (.str "input"))) .nil)))
    (.cons (.ret 0 (.lst .nil))
    .nil)
    .nil)
  (.cons (.ite (.cmp .Eq (.idx (.loc 0) (.const (.int 0))) (.const (.str "power")))
    (.cons (.ret 0 (.lst (.cons (.idx (.loc 0) (.const (.int 1))) .nil)))
    .nil)
    .nil)
  (.cons (.ret 0 (.bi .list (.cons (.sliceF (.loc 0) (.const (.int 1))) .nil)))
  .nil))), false⟩
noncomputable def F_law_told : Fn := ⟨4, 6,
  (.cons (.tryS (.iff (.cmp .Eq (.loc 0) (.const (.str "scale"))) "scale" (.cons (.loc 1) (.cons (.loc 2) .nil)) (.iff (.cmp .Eq (.loc 0) (.const (.str "retold"))) "retold" (.cons (.loc 1) (.cons (.loc 2) .nil)) (.last "rescaled" (.cons (.loc 1) (.cons (.loc 2) (.cons (.loc 3) .nil)))))) "MeasureError" 4 ⟨"_law_good", [.isI "ValueError", .isI "NoValue", .notI "NoFit"], [.none, (.bool false)], [.notV, .isI "Unlike", .isI "ByNought"]⟩)
  .nil), false⟩
noncomputable def F_law_unit : Fn := ⟨1, 1,
  (.cons (.ret 0 (.call "_law_lowest" (.cons (.bin .Add (.const (.int 1)) (.bin .Mod (.loc 0) (.idx (.lst (.cons (.const (.int 9)) (.cons (.bin .Pow (.const (.int 10)) (.const (.int 4))) .nil))) (.bin .Mod (.bin .FloorDiv (.loc 0) (.const (.int 9))) (.const (.int 2)))))) (.cons (.bin .Add (.const (.int 1)) (.bin .Mod (.bin .FloorDiv (.loc 0) (.const (.int 18))) (.idx (.lst (.cons (.const (.int 5)) (.cons (.bin .Pow (.const (.int 10)) (.const (.int 4))) .nil))) (.bin .Mod (.bin .FloorDiv (.loc 0) (.const (.int 90))) (.const (.int 2)))))) .nil))))
  .nil), false⟩
noncomputable def F_law_scale : Fn := ⟨2, 7,
  (.cons (.assignT [2, 3] (.tup (.cons (.const (.int 1)) (.cons (.const (.int 1)) .nil))))
  (.cons (.forS (.many [4, 5]) (.loc 0)
    (.cons (.ite (.cmp .NotIn (.loc 4) (.loc 1))
      (.cons (.ret 0 (.const .none))
      .nil)
      .nil)
    (.cons (.forS (.one 6) (.bi .range (.cons (.bi .abs (.cons (.loc 5) .nil)) .nil))
      (.cons (.assign 2 0 (.bin .Mult (.loc 2) (.idx (.idx (.loc 1) (.loc 4)) (.bi .int (.cons (.cmp .Lt (.loc 5) (.const (.int 0))) .nil)))))
      (.cons (.assign 3 0 (.bin .Mult (.loc 3) (.idx (.idx (.loc 1) (.loc 4)) (.bi .int (.cons (.cmp .Gt (.loc 5) (.const (.int 0))) .nil)))))
      .nil)) [6])
    .nil)) [4, 5, 6])
  (.cons (.ret 0 (.call "_law_lowest" (.cons (.loc 2) (.cons (.loc 3) .nil))))
  .nil))), false⟩
noncomputable def F_law_retold : Fn := ⟨2, 5,
  (.cons (.ite (.cmp .Eq (.idx (.loc 0) (.const (.int 0))) (.const (.str "is")))
    (.cons (.assign 2 0 (.call "_law_scale" (.cons (.idx (.loc 0) (.const (.int 2))) (.cons (.loc 1) .nil))))
    (.cons (.ite (.cmp .Is (.loc 2) (.const .none))
      (.cons (.ret 0 (.const .none))
      .nil)
      .nil)
    (.cons (.ret 0 (.tup (.cons (.const (.str "is")) (.cons (.call "_law_lowest" (.cons (.bin .Mult (.idx (.idx (.loc 0) (.const (.int 1))) (.const (.int 0))) (.idx (.loc 2) (.const (.int 0)))) (.cons (.bin .Mult (.idx (.idx (.loc 0) (.const (.int 1))) (.const (.int 1))) (.idx (.loc 2) (.const (.int 1)))) .nil))) (.cons (.idx (.loc 0) (.const (.int 2))) .nil)))))
    .nil)))
    .nil)
  (.cons (.ite (.orE (.cons (.cmp .Eq (.idx (.loc 0) (.const (.int 0))) (.const (.str "input"))) (.cons (.cmp .Eq (.idx (.loc 0) (.const (.int 0))) (.const (.str "nought"))) .nil)))
    (.cons (.ret 0 (.loc 0))
    .nil)
    .nil)
  (.cons (.assign 3 0 (.bi .tuple (.cons (.comp (.call "_law_retold" (.cons (.loc 4) (.cons (.loc 1) .nil))) (.one 4) (.call "_law_parts" (.cons (.loc 0) .nil)) (.const (.bool true))) .nil)))
  (.cons (.ite (.cmp .In (.const .none) (.loc 3))
    (.cons (.ret 0 (.const .none))
    .nil)
    .nil)
  (.cons (.ret 0 (.bin .Add (.bin .Add (.sliceT (.loc 0) (.const (.int 1))) (.loc 3)) (.sliceF (.loc 0) (.bin .Add (.const (.int 1)) (.bi .len (.cons (.loc 3) .nil))))))
  .nil))))), false⟩
noncomputable def F_law : Fn := ⟨1, 14,
  (.cons (.assign 1 0 (.call "_law_words" (.cons (.call "_law_cell_at" (.cons (.loc 0) (.cons (.const (.int 0)) .nil))) (.cons (.const (.int 4)) .nil))))
  (.cons (.assign 2 0 (.call "_law_words" (.cons (.call "_law_cell_at" (.cons (.loc 0) (.cons (.bi .int (.cons (.cmp .Gt (.bin .Mod (.call "_law_cell_at" (.cons (.loc 0) (.cons (.const (.int 1)) .nil))) (.const (.int 3))) (.const (.int 0))) .nil)) .nil))) (.cons (.const (.int 3)) .nil))))
  (.cons (.assign 3 0 (.bin .Add (.loc 2) (.lst (.cons (.const (.str "?0")) (.cons (.bin .Add (.const (.str "=")) (.idx (.loc 1) (.const (.int 0)))) .nil)))))
  (.cons (.assign 4 1 .edict)
  (.cons (.forS (.one 5) (.bi .range (.cons (.const (.int 5)) .nil))
    (.cons (.setitem (.loc 4) (.idx (.loc 3) (.loc 5)) 0 (.call "_law_unit" (.cons (.call "_law_cell_at" (.cons (.loc 0) (.cons (.bin .Add (.const (.int 2)) (.loc 5)) .nil))) .nil)))
    .nil) [5])
  (.cons (.assign 6 0 (.call "_law_tree" (.cons (.call "_law_cell_at" (.cons (.loc 0) (.cons (.const (.int 7)) .nil))) (.cons (.idx (.lst (.cons (.const (.int 1)) (.cons (.const (.int 2)) (.cons (.const (.int 3)) (.cons (.const (.int 3)) .nil))))) (.bin .Mod (.call "_law_cell_at" (.cons (.loc 0) (.cons (.const (.int 8)) .nil))) (.const (.int 4)))) (.cons (.tup (.cons (.loc 1) (.cons (.loc 2) .nil))) (.cons (.const (.int 2)) .nil))))))
  (.cons (.assign 7 1 .edict)
  (.cons (.assign 8 1 .edict)
  (.cons (.forS (.one 5) (.bi .range (.cons (.const (.int 4)) .nil))
    (.cons (.setitem (.loc 7) (.idx (.loc 1) (.loc 5)) 0 (.call "_law_small" (.cons (.call "_law_cell_at" (.cons (.loc 0) (.cons (.bin .Add (.const (.int 9)) (.loc 5)) .nil))) (.cons (.loc 3) .nil))))
    (.cons (.setitem (.loc 8) (.idx (.loc 1) (.loc 5)) 0 (.call "_law_number" (.cons (.call "_law_mix" (.cons (.call "_law_cell_at" (.cons (.loc 0) (.cons (.bin .Add (.const (.int 9)) (.loc 5)) .nil))) (.cons (.const (.int 3)) .nil))) .nil)))
    .nil)) [5])
  (.cons (.ite (.cmp .NotEq (.call "_law_told" (.cons (.const (.str "retold")) (.cons (.loc 6) (.cons (.bi .dict (.cons (.loc 4) .nil)) (.cons (.const .none) .nil))))) (.call "_law_retold" (.cons (.loc 6) (.cons (.loc 4) .nil))))
    (.cons (.ret 0 (.const (.bool false)))
    .nil)
    .nil)
  (.cons (.ite (.cmp .Lt (.bin .Mod (.call "_law_cell_at" (.cons (.loc 0) (.cons (.const (.int 13)) .nil))) (.const (.int 4))) (.const (.int 2)))
    (.cons (.expr (.meth (.loc 4) .pop (.cons (.idx (.loc 3) (.bin .Mod (.bin .FloorDiv (.call "_law_cell_at" (.cons (.loc 0) (.cons (.const (.int 13)) .nil))) (.const (.int 4))) (.idx (.lst (.cons (.const (.int 5)) (.cons (.const (.int 3)) .nil))) (.bin .Mod (.call "_law_cell_at" (.cons (.loc 0) (.cons (.const (.int 13)) .nil))) (.const (.int 2)))))) .nil)))
    .nil)
    .nil)
  (.cons (.ite (.cmp .NotEq (.call "_law_told" (.cons (.const (.str "retold")) (.cons (.loc 6) (.cons (.bi .dict (.cons (.loc 4) .nil)) (.cons (.const .none) .nil))))) (.call "_law_retold" (.cons (.loc 6) (.cons (.loc 4) .nil))))
    (.cons (.ret 0 (.const (.bool false)))
    .nil)
    .nil)
  (.cons (.ite (.cmp .Eq (.bin .Mod (.call "_law_cell_at" (.cons (.loc 0) (.cons (.const (.int 14)) .nil))) (.const (.int 4))) (.const (.int 1)))
    (.cons (.expr (.meth (.loc 8) .pop (.cons (.idx (.loc 1) (.bin .Mod (.bin .FloorDiv (.call "_law_cell_at" (.cons (.loc 0) (.cons (.const (.int 14)) .nil))) (.const (.int 4))) (.const (.int 4)))) .nil)))
    .nil)
    .nil)
  (.cons (.ite (.cmp .Eq (.bin .Mod (.call "_law_cell_at" (.cons (.loc 0) (.cons (.const (.int 14)) .nil))) (.const (.int 4))) (.const (.int 2)))
    (.cons (.expr (.meth (.loc 7) .pop (.cons (.idx (.loc 1) (.bin .Mod (.bin .FloorDiv (.call "_law_cell_at" (.cons (.loc 0) (.cons (.const (.int 14)) .nil))) (.const (.int 4))) (.const (.int 4)))) .nil)))
    .nil)
    .nil)
  (.cons (.assign 9 1 .edict)
  (.cons (.forS (.one 10) (.loc 7)
    (.cons (.assign 11 0 (.call "_law_scale" (.cons (.idx (.loc 7) (.loc 10)) (.cons (.loc 4) .nil))))
    (.cons (.ite (.cmp .NotEq (.call "_law_told" (.cons (.const (.str "scale")) (.cons (.idx (.loc 7) (.loc 10)) (.cons (.bi .dict (.cons (.loc 4) .nil)) (.cons (.const .none) .nil))))) (.loc 11))
      (.cons (.ret 0 (.const (.bool false)))
      .nil)
      .nil)
    (.cons (.ite (.orE (.cons (.cmp .Is (.loc 11) (.const .none)) (.cons (.cmp .NotIn (.loc 10) (.loc 8)) .nil)))
      (.cons (.assign 9 1 (.const .none))
      .nil)
      (.cons (.ite (.cmp .IsNot (.loc 9) (.const .none))
        (.cons (.setitem (.loc 9) (.loc 10) 0 (.call "_law_lowest" (.cons (.bin .Mult (.idx (.idx (.loc 8) (.loc 10)) (.const (.int 0))) (.idx (.loc 11) (.const (.int 0)))) (.cons (.bin .Mult (.idx (.idx (.loc 8) (.loc 10)) (.const (.int 1))) (.idx (.loc 11) (.const (.int 1)))) .nil))))
        .nil)
        .nil)
      .nil))
    .nil))) [10, 11])
  (.cons (.assign 12 0 (.tup (.cons (.bi .dict (.cons (.loc 8) .nil)) (.cons (.bi .dict (.cons (.loc 7) .nil)) (.cons (.bi .dict (.cons (.loc 4) .nil)) .nil)))))
  (.cons (.assign 13 0 (.call "_law_told" (.cons (.const (.str "rescaled")) (.cons (.idx (.loc 12) (.const (.int 0))) (.cons (.idx (.loc 12) (.const (.int 1))) (.cons (.idx (.loc 12) (.const (.int 2))) .nil))))))
  (.cons (.ite (.orE (.cons (.cmp .NotEq (.loc 12) (.tup (.cons (.loc 8) (.cons (.loc 7) (.cons (.loc 4) .nil))))) (.cons (.andE (.cons (.cmp .IsNot (.loc 9) (.const .none)) (.cons (.notE (.bi (.isinst .dict) (.cons (.loc 13) .nil))) .nil))) .nil)))
    (.cons (.ret 0 (.const (.bool false)))
    .nil)
    .nil)
  (.cons (.ret 0 (.cmp .Eq (.loc 13) (.loc 9)))
  .nil)))))))))))))))))))), false⟩
noncomputable def tbl : List (Str × Fn) := [(("divisor" : Str), F_divisor), (("fraction" : Str), F_fraction), (("product" : Str), F_product), (("quotient" : Str), F_quotient), (("raised" : Str), F_raised), (("parts_of" : Str), F_parts_of), (("scale" : Str), F_scale), (("retold" : Str), F_retold), (("rescaled" : Str), F_rescaled), (("_law_cell_at" : Str), F_law_cell_at), (("_law_mix" : Str), F_law_mix), (("_law_words" : Str), F_law_words), (("_law_made" : Str), F_law_made), (("_law_small" : Str), F_law_small), (("_law_shared" : Str), F_law_shared), (("_law_lowest" : Str), F_law_lowest), (("_law_number" : Str), F_law_number), (("_law_leaf" : Str), F_law_leaf), (("_law_tree" : Str), F_law_tree), (("_law_parts" : Str), F_law_parts), (("_law_told" : Str), F_law_told), (("_law_unit" : Str), F_law_unit), (("_law_scale" : Str), F_law_scale), (("_law_retold" : Str), F_law_retold), (("law" : Str), F_law)]

noncomputable def partsL : List (Str × Int) := [("is", 0), ("nought", 0), ("input", 0), ("plus", 2), ("minus", 2), ("times", 2), ("over", 2), ("power", 1), ("less", 4)]
noncomputable def partsV : PV := .dct (partsL.map fun kv => (kv.1, .int kv.2))
noncomputable def xtb : List (Str × List Str) := [("MeasureError", ["MeasureError", "ValueError", "!"]), ("NoFit", ["NoFit", "MeasureError", "ValueError"]), ("Unlike", ["Unlike", "MeasureError", "ValueError", "!"]), ("NoValue", ["NoValue", "MeasureError", "ValueError", "!"]), ("ByNought", ["ByNought", "MeasureError", "ValueError", "!"])]
noncomputable def G : Glob := ⟨fun x => if x = "PARTS" then some partsV else none, fun f => tbl.lookup f, fun k y => (xtb.lookup k).any (·.contains y), fun f => (tbl.lookup f).isSome⟩

theorem fn_divisor : G.fn "divisor" = some F_divisor := by rfl
theorem fn_fraction : G.fn "fraction" = some F_fraction := by rfl
theorem fn_product : G.fn "product" = some F_product := by rfl
theorem fn_quotient : G.fn "quotient" = some F_quotient := by rfl
theorem fn_raised : G.fn "raised" = some F_raised := by rfl
theorem fn_parts : G.fn "parts_of" = some F_parts_of := by rfl
theorem fn_scale : G.fn "scale" = some F_scale := by rfl
theorem fn_retold : G.fn "retold" = some F_retold := by rfl
theorem fn_rescaled : G.fn "rescaled" = some F_rescaled := by rfl
theorem fn_cell_at : G.fn "_law_cell_at" = some F_law_cell_at := by rfl
theorem fn_mix : G.fn "_law_mix" = some F_law_mix := by rfl
theorem fn_words : G.fn "_law_words" = some F_law_words := by rfl
theorem fn_made : G.fn "_law_made" = some F_law_made := by rfl
theorem fn_small : G.fn "_law_small" = some F_law_small := by rfl
theorem fn_shared : G.fn "_law_shared" = some F_law_shared := by rfl
theorem fn_lowest : G.fn "_law_lowest" = some F_law_lowest := by rfl
theorem fn_number : G.fn "_law_number" = some F_law_number := by rfl
theorem fn_leaf : G.fn "_law_leaf" = some F_law_leaf := by rfl
theorem fn_tree : G.fn "_law_tree" = some F_law_tree := by rfl
theorem fn_lparts : G.fn "_law_parts" = some F_law_parts := by rfl
theorem fn_told : G.fn "_law_told" = some F_law_told := by rfl
theorem fn_unit : G.fn "_law_unit" = some F_law_unit := by rfl
theorem fn_lscale : G.fn "_law_scale" = some F_law_scale := by rfl
theorem fn_lretold : G.fn "_law_retold" = some F_law_retold := by rfl
theorem fn_law : G.fn "law" = some F_law := by rfl
theorem gl_parts : G.const "PARTS" = some partsV := by rfl
end Mine

set_option autoImplicit false
set_option maxRecDepth 100000
set_option linter.unusedVariables false
set_option linter.unusedSimpArgs false
set_option exponentiation.threshold 2000
namespace Mine
open PySem
noncomputable def cellAt (ns : List Int) (k : Nat) : Int := if k < ns.length then (ns.getD k 0).fmod 1000000000000000003 else 0
theorem cell_at {ns : List Int} (h : ns.length ≤ 63) (k : Nat) (hk : k ≤ 1000) (d : Nat) (σ : AH) : callD G (d + 1) "_law_cell_at" [.lst (ns.map .int), .int k] σ = .ok (.int (cellAt ns k)) σ := by
  have h1 : (List.map PV.int ns).length ≤ 1000000 := by rw [List.length_map]; exact om5 h
  refine run_of fn_cell_at rfl rfl rfl fun c a => ?_
  refine v_bi (len_lst _ _ h1) ?_
  by_cases hc : k < ns.length
  · rw [show cellAt ns k = (ns.getD k 0).fmod 1000000000000000003 from if_pos hc]
    refine pick.t (decide_eq_true (by rw [List.length_map]; exact om325 hc)) ?_
    refine v_get (idx_lst σ _ k (.int (ns.getD k 0)) (by exact om4 hk) (by simp [hc, List.getD])) ?_
    exact left_p rfl
  · rw [show cellAt ns k = 0 from if_neg hc]
    refine pick.f (decide_eq_false (by rw [List.length_map]; exact om324 hc)) ?_
    exact left_p rfl
noncomputable def mixN (cell k : Int) : Int := (cell * 48271 + k * 69621 + 11).fmod 2147483647
noncomputable def mix (cell k : Int) : Int := (mixN cell k * mixN cell k + 7 * mixN cell k + k).fmod 2147483629
theorem mixN_bd (cell k : Int) : 0 ≤ mixN cell k ∧ mixN cell k < 2147483647 := ⟨Int.fmod_nonneg_of_pos _ (by decide), Int.fmod_lt_of_pos _ (by decide)⟩
theorem run_mix (cell k : Int) (d : Nat) (σ : AH) : callD G (d + 1) "_law_mix" [.int cell, .int k] σ = .ok (.int (mix cell k)) σ := by
  have hb := mixN_bd cell k
  refine run_of fn_mix rfl rfl rfl fun c a => ?_
  refine v_mul (mul_r rfl) ?_
  refine v_mul (mul_r rfl) ?_
  refine v_mul (mulOk_l (x := mixN cell k) (by omega) (by omega)) ?_
  refine v_mul (mul_l rfl) ?_
  exact left_p rfl
theorem fmod_bd (x : Int) {n : Int} (h : 0 < n) : 0 ≤ x.fmod n ∧ x.fmod n < n := ⟨Int.fmod_nonneg_of_pos _ h, Int.fmod_lt_of_pos _ h⟩
theorem fmod_toNat (x : Int) {n : Nat} (h : 0 < n) : ∃ k : Nat, k < n ∧ x.fmod n = k := by
  have := fmod_bd x (n := n) (by exact om44 h)
  exact ⟨(x.fmod n).toNat, by exact om43 this, by exact om42 this⟩
theorem set_snoc {σ : AH} {o o' : AObj} : (σ ++ [o]).set σ.length o' = σ ++ [o'] := by simp
theorem get_snoc {σ : AH} {o : AObj} : (σ ++ [o])[σ.length]? = some o := by simp
theorem deref_d {σ : AH} {i : Nat} {b : Bool} {l : List (Str × PV)} (h : σ[i]? = some (.dict b l)) : deref σ (.ref i) = .dct l := congrArg derefO h
theorem deref_l {σ : AH} {i : Nat} {b : Bool} {l : List PV} (h : σ[i]? = some (.list b l)) : deref σ (.ref i) = .lst l := congrArg derefO h
theorem openD_of {σ : AH} {i : Nat} {D : List (Str × PV)} (h : σ[i]? = some (.dict false D)) : openD σ i = some D := by unfold openD; rw [h]
theorem get_dP {σ : AH} {i : Nat} {b : Bool} {D : List (Str × PV)} (h : σ[i]? = some (.dict b D)) {k : Str} {v : PV} (hk : dget D k = some v) : getAt σ (.ref i) (.str k) = some (.v v) := by
  unfold getAt
  rw [deref_d h]
  show (dget D k).map Out.v = _
  rw [hk]; rfl
theorem set_dP {σ : AH} {D : List (Str × PV)} (hl : D.length ≤ 1000000) (k : Str) (v : PV) : setAt (σ ++ [AObj.dict false D]) (.ref σ.length) (.str k) v = some (σ ++ [AObj.dict false (dput D k v)]) := by
  show (openD (σ ++ [AObj.dict false D]) σ.length).bind _ = _
  rw [openD_of get_snoc]
  exact (if_pos (decide_eq_true hl)).trans (by rw [set_snoc])
theorem sorted_d {σ : AH} {i : Nat} {b : Bool} {L : List (Str × PV)} (h : σ[i]? = some (.dict b L)) (hl : (L.map (·.1)).length < sortMost) : biP σ .sorted [.ref i] = some (.f (.list ((sortS (L.map (·.1))).map .str))) := by
  show (sortD (deref σ (.ref i))).bind _ = _
  rw [deref_d h]
  exact if_pos hl
theorem app_snoc {σ : AH} {l : List PV} (hl : l.length ≤ 1000000) (v : PV) : bmP (σ ++ [AObj.list false l]) .append (.ref σ.length) [v] = some (.none, σ ++ [AObj.list false (l ++ [v])]) := by
  show (openL (σ ++ [AObj.list false l]) σ.length).bind _ = _
  rw [show openL (σ ++ [AObj.list false l]) σ.length = some l by unfold openL; rw [get_snoc]]
  exact (if_pos (decide_eq_true hl)).trans (by rw [set_snoc])
theorem isTy_l {σ : AH} {l : List PV} : isTy (σ ++ [AObj.list false l]) .list (.ref σ.length) = some true := by
  show isTyD .list (deref _ (.ref σ.length)) = _
  rw [deref_l get_snoc]; rfl
theorem frz_snoc {σ : AH} {l : List PV} (hp : pureVs l = true) : frz σ.length (σ ++ [AObj.list false l]) 3 (.ref σ.length) = some (.lst l) :=
  (if_neg (Nat.lt_irrefl _)).trans (by show frzO _ (σ ++ [AObj.list false l])[σ.length]? = _; rw [get_snoc]; exact congrArg (Option.map PV.lst) (frzWs_pure _ _ hp))
theorem left_l {σ : AH} {l : List PV} {ρ : List PV} (hp : pureVs l = true) : left false σ (.ok (.ret (.ref σ.length), ρ) (σ ++ [AObj.list false l])) = .ok (.lst l) σ := by
  rw [left_rf, List.take_left, if_pos rfl, frz_snoc hp]
theorem range_0 (σ : AH) {n : Int} (h : n.natAbs ≤ 1000000) : biP σ .range [.int n] = some (.v (.rng 0 n)) := if_pos h
theorem rng_get {n k : Nat} {x : PV} (h : (rngInts 0 n)[k]? = some x) : x = .int k ∧ k < n := by
  unfold rngInts at h
  rw [List.getElem?_map] at h
  obtain ⟨j, hj, rfl⟩ := Option.map_eq_some_iff.mp h
  have := List.getElem?_eq_some_iff.mp hj
  obtain ⟨h1, h2⟩ := this
  simp at h1 h2
  subst h2
  exact ⟨by simp, by assumption⟩
theorem rng_len (n : Nat) : (rngInts 0 n).length = n := by simp [rngInts]
theorem v_set {σ σ' : AH} {a k v : PV} {K : AH → Prop} (h : setAt σ a k v = some σ') (q : K σ') : @Option.rec _ (fun _ => Prop) False K (setAt σ a k v) := onO.mk h q
theorem v_bm {σ : AH} {m : BM} {x : PV} {vs : List PV} {r : PV × AH} {K : PV × AH → Prop} (h : bmP σ m x vs = some r) (q : K r) : @Option.rec _ (fun _ => Prop) False K (bmP σ m x vs) := onO.mk h q
theorem v_ty {σ : AH} {t : Ty} {x : PV} {b : Bool} {K : Bool → Prop} (h : isTy σ t x = some b) (q : K b) : @Option.rec _ (fun _ => Prop) False K (isTy σ t x) := onO.mk h q
end Mine

set_option autoImplicit false
set_option maxRecDepth 100000
set_option linter.unusedVariables false
set_option linter.unusedSimpArgs false
set_option exponentiation.threshold 2000
namespace Mine
open PySem
noncomputable def good (w : Str) : Prop := 1 ≤ w.length ∧ w.length ≤ 100
theorem app_len (x y : Str) : (x ++ y).length = x.length + y.length := by
  show (x.cps ++ y.cps).size = _; rw [Array.size_append]; rfl
theorem rep_len (x : Str) (n : Int) : (repStr x n).length = n.toNat * x.length := by
  have key : ∀ (k : Nat) (a : Array Nat), ((List.replicate k x.cps).foldl (· ++ ·) a).size = a.size + k * x.cps.size := by
    intro k
    induction k with
    | zero => intro a; simp
    | succ k ih => intro a; rw [List.replicate_succ, List.foldl_cons, ih, Array.size_append, Nat.succ_mul, Nat.add_assoc, Nat.add_comm x.cps.size]
  show ((List.replicate n.toNat x.cps).foldl (· ++ ·) #[]).size = _
  rw [key]; simp [Str.length]
noncomputable def abc : Str := "abcdefghijklmnopqrstuvwxyz"
theorem abc_size : abc.cps.size = 26 := by decide
noncomputable def signAt (k : Int) : Str := ⟨#[abc.cps.getD k.toNat 0]⟩
theorem signAt_len (k : Int) : (signAt k).length = 1 := rfl
theorem idx_abc (σ : AH) {k : Int} (h : 0 ≤ k ∧ k < 26) : getAt σ (.str "abcdefghijklmnopqrstuvwxyz") (.int k) = some (.v (.str (signAt k))) := by
  have h1 : k.toNat < abc.cps.size := by rw [abc_size]; exact om39 h
  show (if 0 ≤ k ∧ k ≤ 1000000 then (abc.cps[k.toNat]?).map fun c => Out.v (.str ⟨#[c]⟩) else none) = _
  rw [if_pos (by exact om38 h), getElem?_pos abc.cps k.toNat h1]
  simp [signAt, Array.getD, h1]
theorem strs_pure (ws : List Str) : pureVs (ws.map .str) = true := by rw [pureVs_iff]; intro v hv; obtain ⟨w, _, rfl⟩ := List.mem_map.mp hv; rfl
theorem run_words (cell : Int) (many : Nat) (hm : many ≤ 1000) (d : Nat) (σ : AH) : ∃ ws : List Str, ws.length = many ∧ (∀ w ∈ ws, good w) ∧ callD G (d + 1) "_law_words" [.int cell, .int many] σ = .ok (.lst (ws.map .str)) σ := by
  have b8 := fmod_bd cell (n := 8) (by decide)
  have bp := fmod_bd (cell.fdiv 8) (n := 1 + cell.fmod 8) (by exact om36 b8)
  refine run_ex (P := fun r => ∃ ws : List Str, ws.length = many ∧ (∀ w ∈ ws, good w) ∧ r = .ok (.lst (ws.map .str)) σ) fn_words rfl rfl rfl fun c a => ?_
  refine v_mod (by exact om331 bp) ?_
  refine v_get (idx_abc σ (fmod_bd _ (by decide))) ?_
  refine v_bi (range_0 σ (by exact om35 hm)) ?_
  generalize hsz : 1 + cell.fmod 8 = size at *
  generalize (cell.fdiv 8).fmod size = place at *
  generalize hba : signAt ((cell.fdiv 64).fmod 26) = base at *
  have lb : base.length = 1 := by rw [← hba]; rfl
  generalize (cell.fdiv 3).fmod 4 = way at *
  refine vFor.const (fun k σ' => ∃ ws : List Str, ws.length = k ∧ (∀ w ∈ ws, good w) ∧ σ' = σ ++ [.list false (ws.map .str)]) ⟨[], rfl, (fun _ q => nomatch q), rfl⟩ ?_ ?_
  · rintro k x σ' hx ⟨ws, rfl, hg, rfl⟩
    obtain ⟨rfl, hkm⟩ := rng_get hx
    have c8 := fmod_bd (3 * (ws.length : Int) + cell.fdiv 9) (n := 8) (by decide)
    have ck := fmod_bd (ws.length : Int) (n := 8) (by decide)
    have r1 := rep_len base place
    have r2 := rep_len base (size - 1 - place)
    have r3 := rep_len base ((3 * (ws.length : Int) + cell.fdiv 9).fmod 8)
    have r4 := rep_len base (1 + (3 * (ws.length : Int) + cell.fdiv 9).fmod 8)
    have r5 := rep_len base ((ws.length : Int).fmod 8)
    rw [lb, Nat.mul_one] at r1 r2 r3 r4 r5
    have hst : ∀ w : Str, good w → bmP (σ ++ [AObj.list false (ws.map .str)]) .append (.ref σ.length) [.str w] = some (.none, σ ++ [AObj.list false ((ws ++ [w]).map .str)]) := fun w hw => by
      rw [List.map_append]; exact app_snoc (by rw [List.length_map]; exact om33 hm hkm) _
    have hen : ∀ w : Str, good w → ∃ ws' : List Str, ws'.length = ws.length + 1 ∧ (∀ w ∈ ws', good w) ∧ σ ++ [AObj.list false ((ws ++ [w]).map .str)] = σ ++ [.list false (ws'.map .str)] := fun w hw =>
      ⟨ws ++ [w], by simp, fun v hv => by rcases List.mem_append.mp hv with h | h; exact hg v h; rw [List.mem_singleton.mp h]; exact hw, rfl⟩
    refine v_mul (mul_l rfl) ?_
    refine v_get (idx_abc _ (fmod_bd _ (by decide))) ?_
    generalize hs : signAt ((cell.fdiv 1664 + 5 * (ws.length : Int)).fmod 26) = sg at *
    have ls : sg.length = 1 := by rw [← hs]; rfl
    refine v_bin (mul_si _ base place ⟨by exact om31 b8 hsz bp, by exact om30 bp, by exact om23 lb⟩) ?_
    refine v_bin (add_ss _ _ _ (by exact om330 b8 hsz bp r1 ls)) ?_
    refine v_bin (mul_si _ base _ ⟨by exact om29 b8 hsz bp, by exact om28 bp, by exact om23 lb⟩) ?_
    refine v_bin (add_ss _ _ _ (by rw [app_len]; exact om329 b8 hsz bp r1 r2 ls)) ?_
    refine pick.mk (fun w0 => ?_) fun w0 => ?_
    · have w0 : way = 0 := eq_of_beq w0
      subst w0
      have hg : good (sg ++ repStr base ((3 * (ws.length : Int) + cell.fdiv 9).fmod 8)) := ⟨by rw [app_len]; exact om12 ls, by rw [app_len]; exact om11 c8 r3 ls⟩
      refine v_mul (mul_l rfl) ?_
      refine v_bin (mul_si _ base _ ⟨by exact om25 c8, by exact om24 c8, by exact om23 lb⟩) ?_
      refine v_bin (add_ss _ _ _ (by exact om19 c8 r3 ls)) ?_
      refine v_ty isTy_l ?_
      refine v_bm (hst _ hg) ?_
      exact ⟨_, by rfl, rfl, hen _ hg⟩
    · refine pick.mk (fun w1 => ?_) fun w1 => ?_
      · have w1 : way = 1 := eq_of_beq w1
        subst w1
        refine pick.mk (fun k8 => ?_) fun k8 => ?_
        · have k8 := of_decide_eq_true k8
          have hg : good (repStr base (1 + (3 * (ws.length : Int) + cell.fdiv 9).fmod 8)) := ⟨by exact om16 c8 r4, by exact om15 c8 r4⟩
          refine v_mul (mul_l rfl) ?_
          refine v_bin (mul_si _ base _ ⟨by exact om27 c8, by exact om26 c8, by exact om23 lb⟩) ?_
          refine pick.f (decide_eq_false (by exact om328 k8)) ?_
          refine v_ty isTy_l ?_
          refine v_bm (hst _ hg) ?_
          exact ⟨_, by rfl, rfl, hen _ hg⟩
        · have k8 := of_decide_eq_false k8
          have l7 := signAt_len ((cell.fdiv 64 + (ws.length : Int) - 7).fmod 26)
          have hg : good (signAt ((cell.fdiv 64 + (ws.length : Int) - 7).fmod 26) ++ repStr base ((ws.length : Int).fmod 8)) := ⟨by rw [app_len]; exact om12 l7, by rw [app_len]; exact om11 ck r5 l7⟩
          refine pick.t (decide_eq_true (by exact om327 k8)) ?_
          refine v_get (idx_abc _ (fmod_bd _ (by decide))) ?_
          refine v_bin (mul_si _ base _ ⟨by exact om25 ck, by exact om24 ck, by exact om23 lb⟩) ?_
          refine v_bin (add_ss _ _ _ (by exact om19 ck r5 l7)) ?_
          refine v_ty isTy_l ?_
          refine v_bm (hst _ hg) ?_
          exact ⟨_, by rfl, rfl, hen _ hg⟩
      · have hg : good (repStr base place ++ sg ++ repStr base (size - 1 - place)) := ⟨by rw [app_len, app_len]; exact om10 ls, by rw [app_len, app_len]; exact om326 b8 hsz bp r1 r2 ls⟩
        refine pick.f w1 (pick.f w1 (pick.f w1 ?_))
        refine v_ty isTy_l ?_
        refine v_bm (hst _ hg) ?_
        exact ⟨_, by rfl, rfl, hen _ hg⟩
  · rintro σ' ⟨ws, h1, h2, rfl⟩
    exact ⟨ws, by rw [h1, rng_len], h2, left_l (strs_pure ws)⟩
end Mine

set_option autoImplicit false
set_option maxRecDepth 100000
set_option linter.unusedVariables false
set_option linter.unusedSimpArgs false
set_option exponentiation.threshold 2000
namespace Mine
open PySem
theorem get_dv {σ : AH} {i : Nat} {b : Bool} {D : DI} (h : σ[i]? = some (.dict b (dv D))) {k : Str} (hk : k ∈ D.map (·.1)) : getAt σ (.ref i) (.str k) = some (.v (.int (val D k))) := by
  obtain ⟨v, hv⟩ := dget_some hk
  refine get_dP h ?_
  rw [dv_get, hv]
  unfold val
  rw [hv]; rfl
theorem tuple_lst {σ : AH} {l : List PV} (h : l.length ≤ 1000000) : biP σ .tuple [.lst l] = some (.v (.tup l)) := if_pos (decide_eq_true h)
noncomputable def SM (m : DI) : Prop := m.length ≤ 3 ∧ ∀ kv ∈ m, kv.2.natAbs ≤ 20
theorem dput_all {α : Type} {P : α → Prop} {D : List (Str × α)} {k : Str} {v : α} (h : ∀ kv ∈ D, P kv.2) (hv : P v) : ∀ kv ∈ dput D k v, P kv.2 := fun kv hkv => by
  unfold dput at hkv
  split at hkv
  · obtain ⟨q, hq, rfl⟩ := List.mem_map.mp hkv
    split
    · exact hv
    · exact h q hq
  · rcases List.mem_append.mp hkv with q | q
    · exact h kv q
    · rw [List.mem_singleton.mp q]; exact hv
theorem run_made {σ : AH} {i : Nat} {b : Bool} {D : DI} (h : σ[i]? = some (.dict b (dv D))) (hD : SM D) (d : Nat) : ∃ m : DI, SM m ∧ callD G (d + 1) "_law_made" [.ref i] σ = .ok (mv m) σ := by
  have hl : D.length < sortMost := Nat.lt_of_le_of_lt hD.1 (by decide)
  have hl3 : (sortS (D.map (·.1))).length ≤ 3 := by rw [(sortS_perm _).length_eq, List.length_map]; exact hD.1
  have hlen3 : ((sortS (D.map (·.1))).filter fun k => !(val D k == 0)).length ≤ 3 := Nat.le_trans (List.length_filter_le ..) hl3
  have hlen : ((sortS (D.map (·.1))).filter fun k => !(val D k == 0)).length ≤ 1000000 := Nat.le_trans hlen3 (by decide)
  refine ⟨((sortS (D.map (·.1))).filter fun k => !(val D k == 0)).map fun k => (k, val D k), ⟨by rw [List.length_map]; exact hlen3, fun kv hkv => ?_⟩, ?_⟩
  · obtain ⟨k, hk, rfl⟩ := List.mem_map.mp hkv
    obtain ⟨v, hv⟩ := dget_some ((sortS_perm _).mem_iff.mp (List.mem_filter.mp hk).1)
    have := hD.2 _ (mem_of_dget hv)
    show ((dget D k).getD 0).natAbs ≤ 20
    rw [hv]; exact this
  refine run_of fn_made rfl rfl rfl fun c a => ?_
  refine v_bi (sorted_d h (by rw [dv_keys, List.length_map]; exact hl)) ?_
  refine vComp.pure .str (fun k => !(val D k == 0)) (fun k => .tup [.str k, .int (val D k)]) (sortS ((dv D).map (·.1))) rfl rfl rfl (fun k hk => ?_) ?_ ?_
  · rw [dv_keys] at hk
    have hg := get_dv h ((sortS_perm _).mem_iff.mp hk)
    exact ⟨v_get hg ⟨rfl, rfl⟩, fun _ => v_get hg ⟨rfl, rfl⟩⟩
  · rw [dv_keys]; exact decide_eq_true (Nat.le_trans hl3 (by decide))
  · rw [dv_keys]
    refine v_bi (tuple_lst (by rw [List.length_map]; exact hlen)) ?_
    refine (left_p ?_).trans ?_
    · exact mv_pure (((sortS (D.map (·.1))).filter fun k => !(val D k == 0)).map fun k => (k, val D k)) ▸ by unfold mv; rw [List.map_map]; rfl
    · unfold mv; rw [List.map_map]; rfl
theorem idx_mod (σ : AH) {ws : List Str} (h : 1 ≤ ws.length) (h2 : ws.length ≤ 1000) (x : Int) : ∃ w, w ∈ ws ∧ getAt σ (.lst (ws.map .str)) (.int (x.fmod ((ws.map PV.str).length : Int))) = some (.v (.str w)) := by
  obtain ⟨k, hk, e⟩ := fmod_toNat x (n := ws.length) (by exact om190 h)
  refine ⟨ws[k], List.getElem_mem hk, ?_⟩
  rw [List.length_map, e]
  exact idx_lst σ _ k _ (by exact om33 h2 hk) (by simp [hk])
theorem dput_more {α : Type} (D : List (Str × α)) (k : Str) (v : α) : (dput D k v).length ≤ D.length + 1 := by unfold dput; split <;> simp
theorem run_small (cell : Int) {ls : List Str} (hl : 1 ≤ ls.length) (hl2 : ls.length ≤ 1000) (d : Nat) (σ : AH) : ∃ m : DI, SM m ∧ callD G (d + 2) "_law_small" [.int cell, .lst (ls.map .str)] σ = .ok (mv m) σ := by
  have zl : ((ls.map PV.str).length : Int) ≠ 0 := by rw [List.length_map]; exact om174 hl
  have hll : (ls.map PV.str).length ≤ 1000000 := by rw [List.length_map]; exact om4 hl2
  obtain ⟨n, hn, en⟩ := fmod_toNat cell (n := 4) (by decide)
  have en : cell.fmod 4 = n := en
  refine run_ex (P := fun r => ∃ m : DI, SM m ∧ r = .ok (mv m) σ) fn_small rfl rfl rfl fun c a => ?_
  refine v_bi (range_0 _ (show (cell.fmod 4).natAbs ≤ 1000000 by exact om332 hn en)) ?_
  refine vFor.const (fun k σ' => ∃ D : DI, D.length ≤ k ∧ (∀ kv ∈ D, kv.2.natAbs ≤ 20) ∧ σ' = σ ++ [.dict false (dv D)]) ⟨[], Nat.le_refl _, (fun _ q => nomatch q), rfl⟩ ?_ ?_
  · rintro k x σ' hx ⟨D, h1, h20, rfl⟩
    have hx : (rngInts 0 (n : Int))[k]? = some x := en ▸ hx
    obtain ⟨rfl, hkn⟩ := rng_get hx
    obtain ⟨w, hw, hi⟩ := idx_mod (σ ++ [.dict false (dv D)]) hl hl2 (mix cell k)
    have b9 := fmod_bd ((mix cell k).fdiv 16) (n := 9) (by decide)
    have b8 : (((mix cell k).fdiv 16).fmod 9).fdiv 8 = 0 ∨ (((mix cell k).fdiv 16).fmod 9).fdiv 8 = 1 := by
      rw [Int.fdiv_eq_ediv_of_nonneg _ (by decide)]; exact om187 b9
    have q5 := fmod_bd ((mix cell k).fdiv ((ls.map PV.str).length : Int)) (n := 5) (by decide)
    have q41 := fmod_bd ((mix cell k).fdiv 256) (n := 41) (by decide)
    obtain ⟨V, hV, hg⟩ : ∃ V : Int, V.natAbs ≤ 20 ∧ getAt (σ ++ [.dict false (dv D)]) (.lst [.int (((mix cell k).fdiv ((ls.map PV.str).length : Int)).fmod 5 - 2), .int (((mix cell k).fdiv 256).fmod 41 - 20)]) (.int ((((mix cell k).fdiv 16).fmod 9).fdiv 8)) = some (.v (.int V)) := by
      rcases b8 with h | h <;> rw [h]
      · exact ⟨_, by exact om186 q5, rfl⟩
      · exact ⟨_, by exact om185 q41, rfl⟩
    have hs := set_dP (σ := σ) (D := dv D) (by rw [dv_len]; exact om184 hn h1 hkn) w (.int V)
    rw [dv_put] at hs
    refine call_ a (run_mix cell k d _) ?_
    refine v_bi (len_lst _ _ hll) ?_
    refine v_div zl ?_
    refine v_get hg ?_
    refine v_bi (len_lst _ _ hll) ?_
    refine v_mod zl ?_
    refine v_get hi ?_
    refine v_set hs ?_
    exact ⟨_, by rfl, rfl, dput D w V, Nat.le_trans (dput_more D w V) (Nat.succ_le_succ h1), dput_all (P := fun v : Int => v.natAbs ≤ 20) h20 hV, rfl⟩
  · rintro σ' ⟨D, h1, h20, rfl⟩
    have h1 : D.length ≤ n := by
      have : (rngInts 0 (cell.fmod 4)).length = n := by rw [show cell.fmod 4 = n from en]; exact rng_len n
      rw [← this]; exact h1
    obtain ⟨m, hm0, hm⟩ := run_made (σ := σ ++ [.dict false (dv D)]) (i := σ.length) (b := false) (D := D) get_snoc ⟨by exact om690 hn h1, h20⟩ d
    refine call_ a hm ?_
    exact ⟨m, hm0, left_q (mv_pure m)⟩
end Mine

set_option autoImplicit false
set_option maxRecDepth 100000
set_option linter.unusedVariables false
set_option linter.unusedSimpArgs false
set_option exponentiation.threshold 2000
namespace Mine
open PySem
set_option genCtorIdx true
inductive Op where
  | plus | minus | times | over
inductive T where
  | inp (w : Str)
  | nou
  | is (n : PV) (m : DI)
  | bin (o : Op) (a b : T)
  | pow (a : T) (n : Int)
  | less (a b c d : T)
noncomputable def Op.word : Op → Str
  | .plus => "plus" | .minus => "minus" | .times => "times" | .over => "over"
noncomputable def T.word : T → Str
  | .inp _ => "input" | .nou => "nought" | .is _ _ => "is" | .bin o _ _ => o.word | .pow _ _ => "power" | .less _ _ _ _ => "less"
noncomputable def tv : T → PV
  | .inp w => .tup [.str "input", .str w]
  | .nou => .tup [.str "nought"]
  | .is n m => .tup [.str "is", n, mv m]
  | .bin o a b => .tup [.str o.word, tv a, tv b]
  | .pow a n => .tup [.str "power", tv a, .int n]
  | .less a b c d => .tup [.str "less", tv a, tv b, tv c, tv d]
noncomputable def T.kids : T → List T
  | .bin _ a b => [a, b]
  | .pow a _ => [a]
  | .less a b c d => [a, b, c, d]
  | .inp _ => []
  | .nou => []
  | .is _ _ => []
noncomputable def T.k : T → Nat
  | .is _ _ => 0 | .inp _ => 1 | .nou => 2 | .bin .times _ _ => 3 | .bin .over _ _ => 4 | .pow _ _ => 5 | .less _ _ _ _ => 6 | .bin .plus _ _ => 7 | .bin .minus _ _ => 8
noncomputable def T.ht : T → Nat
  | .bin _ a b => 1 + max a.ht b.ht
  | .pow a _ => 1 + a.ht
  | .less a b c d => 1 + max (max a.ht b.ht) (max c.ht d.ht)
  | .inp _ => 1
  | .nou => 1
  | .is _ _ => 1
noncomputable def T.sz : T → Nat
  | .bin _ a b => 1 + (a.sz + b.sz)
  | .pow a _ => 1 + a.sz
  | .less a b c d => 1 + (a.sz + b.sz + (c.sz + d.sz))
  | .inp _ => 1
  | .nou => 1
  | .is _ _ => 1
noncomputable def T.pure : T → Prop
  | .is n _ => pureV n = true
  | .bin _ a b => a.pure ∧ b.pure
  | .pow a _ => a.pure
  | .less a b c d => a.pure ∧ b.pure ∧ c.pure ∧ d.pure
  | .inp _ => True
  | .nou => True
theorem isU_tv (t : T) : isU (tv t) = false := by cases t <;> rfl
theorem tv_pure : ∀ {t : T}, t.pure → pureV (tv t) = true
  | .inp w, _ => rfl
  | .nou, _ => rfl
  | .is n m, h => by
    show (true && (pureV n && (pureV (mv m) && true))) = true
    rw [show pureV n = true from h, mv_pure]; rfl
  | .bin o a b, h => by
    show (true && (pureV (tv a) && (pureV (tv b) && true))) = true
    rw [tv_pure h.1, tv_pure h.2]; rfl
  | .pow a n, h => by
    show (true && (pureV (tv a) && (true && true))) = true
    rw [tv_pure (t := a) h]; rfl
  | .less a b c d, h => by
    show (true && (pureV (tv a) && (pureV (tv b) && (pureV (tv c) && (pureV (tv d) && true))))) = true
    rw [tv_pure h.1, tv_pure h.2.1, tv_pure h.2.2.1, tv_pure h.2.2.2]; rfl
theorem kids_pure {t : T} (h : t.pure) : ∀ x ∈ t.kids, x.pure := by
  cases t with
  | bin o a b => intro x hx; simp [T.kids] at hx; rcases hx with rfl | rfl; exact h.1; exact h.2
  | pow a n => intro x hx; simp [T.kids] at hx; subst hx; exact h
  | less a b c d => intro x hx; simp [T.kids] at hx; rcases hx with rfl | rfl | rfl | rfl; exact h.1; exact h.2.1; exact h.2.2.1; exact h.2.2.2
  | _ => intro x hx; cases hx
theorem pureVs_map {α : Type} {f : α → PV} {l : List α} (h : ∀ x ∈ l, pureV (f x) = true) : pureVs (l.map f) = true := by
  rw [pureVs_iff]; intro v hv; obtain ⟨x, hx, rfl⟩ := List.mem_map.mp hv; exact h x hx
theorem pure_lst {l : List PV} (h : pureVs l = true) : pureV (.lst l) = true := h
theorem get0 (σ : AH) (t : T) : getAt σ (tv t) (.int 0) = some (.v (.str t.word)) := by cases t <;> rfl
theorem w_is (t : T) : (t.word == "is") = (t.k == 0) := by rcases t with _ | _ | _ | ⟨⟨⟩, _, _⟩ | _ | _ <;> rfl
theorem w_inp (t : T) : (t.word == "input") = (t.k == 1) := by rcases t with _ | _ | _ | ⟨⟨⟩, _, _⟩ | _ | _ <;> rfl
theorem w_pow (t : T) : (t.word == "power") = (t.k == 5) := by rcases t with _ | _ | _ | ⟨⟨⟩, _, _⟩ | _ | _ <;> rfl
theorem kids_len (t : T) : t.kids.length ≤ 4 := by cases t <;> simp [T.kids]

noncomputable def T.np : T → Int
  | .bin _ _ _ => 2 | .pow _ _ => 1 | .less _ _ _ _ => 4 | .inp _ => 0 | .nou => 0 | .is _ _ => 0
theorem np_get (σ : AH) (t : T) : getAt σ partsV (.str t.word) = some (.v (.int t.np)) := by rcases t with _ | _ | _ | ⟨⟨⟩, _, _⟩ | _ | _ <;> rfl
theorem cut_parts (σ : AH) (t : T) : cutP σ (tv t) (.int 1) (.int (1 + t.np)) = some (.v (.tup (t.kids.map tv))) := by cases t <;> rfl
theorem list_tup {σ : AH} {l : List PV} (h : l.length ≤ 1000000) : biP σ .list [.tup l] = some (.f (.list l)) := if_pos (decide_eq_true h)
theorem kids_ht {t x : T} (h : x ∈ t.kids) : x.ht < t.ht := by
  cases t with
  | bin o a b => simp [T.kids] at h; rcases h with rfl | rfl <;> simp only [T.ht] <;> (first | ((first | exact om66 | exact om67)) | omega)
  | pow a n => simp [T.kids] at h; subst h; simp only [T.ht]; exact om59
  | less a b c d => simp [T.kids] at h; rcases h with rfl | rfl | rfl | rfl <;> simp only [T.ht] <;> (first | ((first | exact om62 | exact om63 | exact om64 | exact om65)) | omega | omega | omega)
  | _ => cases h
theorem ht_pos (t : T) : 1 ≤ t.ht := by cases t <;> simp only [T.ht] <;> (first | ((first | exact om51 | exact om52 | exact om53 | exact om54)) | omega | omega | omega)
theorem T.byKids {P : T → Prop} (h : ∀ t, (∀ x ∈ t.kids, P x) → P t) (t : T) : P t := by
  induction t with
  | bin o a b ha hb => exact h _ fun x hx => by simp [T.kids] at hx; rcases hx with rfl | rfl <;> assumption
  | pow a n ha => exact h _ fun x hx => by simp [T.kids] at hx; subst hx; assumption
  | less a b c d ha hb hc hd => exact h _ fun x hx => by simp [T.kids] at hx; rcases hx with rfl | rfl | rfl | rfl <;> assumption
  | _ => exact h _ fun x hx => nomatch hx

theorem cutF_tail (σ : AH) (x : PV) (l : List PV) (h : l.length < 1000) : cutF σ (.tup (x :: l)) (.int 1) = some (.v (.tup l)) := by
  show (if small (x :: l).length && decide (1 ≤ 1) && decide (1 ≤ (x :: l).length) then some (Out.v (.tup (((x :: l).take 1000000).drop 1))) else none) = _
  have h1 : small (x :: l).length = true := decide_eq_true (by rw [List.length_cons]; exact om72 h)
  rw [List.take_of_length_le (by rw [List.length_cons]; exact om72 h), h1]
  simp
theorem cut_tail (σ : AH) {t : T} (h0 : (t.k == 0) = false) (h1 : (t.k == 1) = false) (h5 : (t.k == 5) = false) : cutF σ (tv t) (.int 1) = some (.v (.tup (t.kids.map tv))) := by
  rcases t with _ | _ | _ | ⟨o, a, b⟩ | _ | ⟨a, b, c, d⟩
  · cases h1
  · exact cutF_tail σ _ [] (by decide)
  · cases h0
  · exact cutF_tail σ _ [tv a, tv b] (by simp)
  · cases h5
  · exact cutF_tail σ _ [tv a, tv b, tv c, tv d] (by simp)
theorem u_tv (t : T) : uAll [tv t] = true := uAll_cons (isU_tv t) rfl
theorem run_parts {t : T} (hp : t.pure) (d : Nat) (σ : AH) : callD G (d + 1) "parts_of" [tv t] σ = .ok (.lst (t.kids.map tv)) σ := by
  have h1 : (t.kids.map tv).length ≤ 1000000 := by rw [List.length_map]; have := kids_len t; exact om45 this
  refine run_of fn_parts rfl rfl (u_tv t) fun c a => ?_
  refine glob_ a gl_parts ?_
  refine v_get (get0 σ t) ?_
  refine v_get (np_get σ t) ?_
  refine v_cutP (cut_parts σ t) ?_
  refine v_bi (list_tup h1) ?_
  exact left_p (pure_lst (pureVs_map fun x hx => tv_pure (kids_pure hp x hx)))
theorem run_lparts {t : T} (hp : t.pure) (d : Nat) (σ : AH) : callD G (d + 1) "_law_parts" [tv t] σ = .ok (.lst (t.kids.map tv)) σ := by
  have h2 : pureV (.lst (t.kids.map tv)) = true := pure_lst (pureVs_map fun x hx => tv_pure (kids_pure hp x hx))
  have h1 : (t.kids.map tv).length ≤ 1000000 := by rw [List.length_map]; have := kids_len t; exact om45 this
  refine run_of fn_lparts rfl rfl (u_tv t) fun c a => ?_
  have hk : ∀ k, (t.k == k) = true → k < 3 → t.kids = [] := fun k h hk => by rcases t with _ | _ | _ | ⟨⟨⟩, _, _⟩ | _ | _ <;> first | rfl | exact absurd (eq_of_beq h) (by simp only [T.k]; (first | ((first | exact om333 hk | exact om334 hk | exact om335 hk | exact om336 hk | exact om337 hk | exact om338 hk)) | omega | omega | omega | omega | omega))
  refine v_get (get0 σ t) ?_
  refine pick.mk (fun e => ?_) fun e0 => ?_
  · refine pick.t e (left_p ?_ |>.trans ?_)
    · rfl
    · rw [hk 0 ((w_is t).symm.trans e) (by decide)]; rfl
  · refine v_get (get0 σ t) ?_
    refine pick.mk (fun e => ?_) fun e1 => ?_
    · refine (left_p ?_).trans ?_
      · rfl
      · rw [hk 1 ((w_inp t).symm.trans e) (by decide)]; rfl
    · refine v_get (get0 σ t) ?_
      refine pick.mk (fun e => ?_) fun e5 => ?_
      · have hx : ∃ a n, t = .pow a n := by
          have := (w_pow t).symm.trans e
          rcases t with _ | _ | _ | ⟨⟨⟩, _, _⟩ | _ | _ <;> first | exact ⟨_, _, rfl⟩ | cases this
        obtain ⟨x, n, hx⟩ := hx
        refine v_get (show getAt σ (tv t) (.int 1) = some (.v (tv x)) by rw [hx]; rfl) ?_
        have hk : t.kids.map tv = [tv x] := by rw [hx]; rfl
        rw [hk] at h2 ⊢
        exact left_p h2
      · refine v_cutF (cut_tail σ ((w_is t).symm.trans e0) ((w_inp t).symm.trans e1) ((w_pow t).symm.trans e5)) ?_
        refine v_bi (list_tup h1) ?_
        exact left_p h2
theorem okE_ini {n : Nat} {l : List (Option PV)} (h : ∀ v, some v ∈ l → isU v = false) : okE (.ini n l) := fun i v hv => by
  replace hv : nth l i = some v := hv
  induction l generalizing i with
  | nil => cases hv
  | cons o l ih =>
    cases i with
    | zero => cases hv; exact h v List.mem_cons_self
    | succ i => exact ih (fun w hw => h w (List.mem_cons_of_mem _ hw)) i hv
theorem ok3 {n : Nat} {a b : PV} (ha : isU a = false) (hb : isU b = false) : okE (.ini n [some a, some b, none]) := okE_ini fun v hv => by
  rcases List.mem_cons.mp hv with e | hv
  · cases e; exact ha
  · rcases List.mem_cons.mp hv with e | hv
    · cases e; exact hb
    · rcases List.mem_cons.mp hv with e | hv
      · cases e
      · cases hv
end Mine

set_option autoImplicit false
set_option maxRecDepth 100000
set_option linter.unusedVariables false
set_option linter.unusedSimpArgs false
set_option exponentiation.threshold 2000
namespace Mine
open PySem
theorem bits_le {x : Int} {n : Nat} (hx : x.natAbs < 2 ^ n) : Builtin.Int.intBits x ≤ n := by
  unfold Builtin.Int.intBits
  split
  · exact Nat.zero_le _
  · rename_i h0
    have h1 : x.natAbs ≠ 0 := fun q => h0 (by simpa using q)
    have := (Nat.log2_lt h1).mpr hx
    exact om32 this
theorem mulOk {x y : Int} (hx : x.natAbs < 2 ^ 100000) (hy : y.natAbs < 2 ^ 100000) : IntMulOk x y := by
  have h1 := bits_le hx
  have h2 := bits_le hy
  unfold IntMulOk
  intro h
  have h3 := (Bool.and_eq_true_iff.mp h).2
  have h4 : (200000 : Int) ≤ (bitsLine : Int) := by decide
  simp only [Builtin.Int.intTooBig, decide_eq_true_eq] at h3
  clear hx hy h; exact (om696 h1 h2 h4 h3).elim
noncomputable def lw (a b : Int) : Int × Int := (a.fdiv (if b < 0 then -(Int.gcd a b : Int) else Int.gcd a b), b.fdiv (if b < 0 then -(Int.gcd a b : Int) else Int.gcd a b))
noncomputable def Low (p : Int × Int) : Prop := 0 < p.2 ∧ Int.gcd p.1 p.2 = 1

theorem lw_pos {a b : Int} (hb : 0 < b) : lw a b = (a / (Int.gcd a b : Int), b / (Int.gcd a b : Int)) := by
  have h : ¬ b < 0 := Int.not_lt.mpr (Int.le_of_lt hb)
  unfold lw
  rw [if_neg h, Int.fdiv_eq_ediv_of_dvd (Int.gcd_dvd_left ..), Int.fdiv_eq_ediv_of_dvd (Int.gcd_dvd_right ..)]
theorem lw_neg {a b : Int} (hb : b < 0) : lw a b = (-(a / (Int.gcd a b : Int)), -(b / (Int.gcd a b : Int))) := by
  unfold lw
  rw [if_pos hb, Int.fdiv_eq_ediv_of_dvd (Int.neg_dvd.mpr (Int.gcd_dvd_left ..)), Int.fdiv_eq_ediv_of_dvd (Int.neg_dvd.mpr (Int.gcd_dvd_right ..)), Int.ediv_neg, Int.ediv_neg]
theorem gcd_pos {a b : Int} (hb : b ≠ 0) : 0 < Int.gcd a b := Int.gcd_pos_of_ne_zero_right a hb
theorem lw_low {a b : Int} (hb : b ≠ 0) : Low (lw a b) := by
  have hg := gcd_pos (a := a) hb
  have hg' : (0 : Int) < (Int.gcd a b : Int) := Int.natCast_pos.mpr hg
  have h1 : Int.gcd (a / (Int.gcd a b : Int)) (b / (Int.gcd a b : Int)) = 1 := Int.gcd_ediv_gcd_ediv_gcd hg
  rcases Int.lt_trichotomy b 0 with h | h | h
  · rw [lw_neg h]
    refine ⟨?_, ?_⟩
    · show 0 < -(b / (Int.gcd a b : Int))
      exact Int.neg_pos_of_neg (Int.ediv_neg_of_neg_of_pos h hg')
    · show Int.gcd (-(a / (Int.gcd a b : Int))) (-(b / (Int.gcd a b : Int))) = 1
      rw [Int.neg_gcd, Int.gcd_neg]; exact h1
  · exact absurd h hb
  · rw [lw_pos h]
    refine ⟨?_, h1⟩
    show 0 < b / (Int.gcd a b : Int)
    exact Int.ediv_pos_of_pos_of_dvd h (Int.le_of_lt hg') (Int.gcd_dvd_right ..)
theorem lw_self {p : Int × Int} (h : Low p) : lw p.1 p.2 = p := by
  rw [lw_pos h.1, h.2]
  show (p.1 / 1, p.2 / 1) = p
  rw [Int.ediv_one, Int.ediv_one]
theorem low_pow {a b : Int} (h : Low (a, b)) (n : Nat) : Low (a ^ n, b ^ n) := by
  refine ⟨Int.pow_pos h.1, ?_⟩
  show Int.gcd (a ^ n) (b ^ n) = 1
  have h2 : Int.gcd a b = 1 := h.2
  unfold Int.gcd at h2 ⊢
  rw [Int.natAbs_pow, Int.natAbs_pow]
  exact Nat.Coprime.pow n n h2
theorem lw_pows {a b : Int} (h : Low (a, b)) (i j : Nat) : lw (a ^ i * a ^ j) (b ^ i * b ^ j) = (a ^ (i + j), b ^ (i + j)) := by
  rw [← Int.pow_add, ← Int.pow_add]
  exact lw_self (p := (a ^ (i + j), b ^ (i + j))) (low_pow h (i + j))
theorem lw_le1 (a b : Int) (hb : b ≠ 0) : (lw a b).1.natAbs ≤ a.natAbs := by
  have hg := gcd_pos (a := a) hb
  rcases Int.lt_trichotomy b 0 with h | h | h
  · rw [lw_neg h]; show (-(a / (Int.gcd a b : Int))).natAbs ≤ _
    rw [Int.natAbs_neg, Int.natAbs_ediv_of_dvd (Int.gcd_dvd_left ..)]; exact Nat.div_le_self ..
  · exact absurd h hb
  · rw [lw_pos h]; show (a / (Int.gcd a b : Int)).natAbs ≤ _
    rw [Int.natAbs_ediv_of_dvd (Int.gcd_dvd_left ..)]; exact Nat.div_le_self ..
theorem lw_le2 (a b : Int) (hb : b ≠ 0) : (lw a b).2.natAbs ≤ b.natAbs := by
  have hg := gcd_pos (a := a) hb
  rcases Int.lt_trichotomy b 0 with h | h | h
  · rw [lw_neg h]; show (-(b / (Int.gcd a b : Int))).natAbs ≤ _
    rw [Int.natAbs_neg, Int.natAbs_ediv_of_dvd (Int.gcd_dvd_right ..)]; exact Nat.div_le_self ..
  · exact absurd h hb
  · rw [lw_pos h]; show (b / (Int.gcd a b : Int)).natAbs ≤ _
    rw [Int.natAbs_ediv_of_dvd (Int.gcd_dvd_right ..)]; exact Nat.div_le_self ..
structure Fr (n : Nat) (p : Int × Int) : Prop where
  low : Low p
  up : p.1.natAbs < 2 ^ n
  dn : p.2.natAbs < 2 ^ n
theorem Fr.more {n m : Nat} {p : Int × Int} (h : Fr n p) (hm : n ≤ m) : Fr m p :=
  ⟨h.low, Nat.lt_of_lt_of_le h.up (Nat.pow_le_pow_right (by decide) hm), Nat.lt_of_lt_of_le h.dn (Nat.pow_le_pow_right (by decide) hm)⟩
theorem mul_lt_pow {x y : Int} {n m : Nat} (h1 : x.natAbs < 2 ^ n) (h2 : y.natAbs < 2 ^ m) : (x * y).natAbs < 2 ^ (n + m) := by
  rw [Int.natAbs_mul, Nat.pow_add]
  exact Nat.mul_lt_mul_of_lt_of_lt h1 h2
theorem pow_lt_pow {x : Int} {n k : Nat} (h : x.natAbs < 2 ^ n) : (x ^ k).natAbs < 2 ^ (n * k + 1) := by
  rw [Int.natAbs_pow]
  refine Nat.lt_of_le_of_lt (Nat.pow_le_pow_left (Nat.le_of_lt h) k) ?_
  rw [← Nat.pow_mul]
  exact Nat.pow_lt_pow_right (by decide) (Nat.lt_succ_self _)
theorem Fr.lw {n : Nat} {a b : Int} (hb : b ≠ 0) (h1 : a.natAbs < 2 ^ n) (h2 : b.natAbs < 2 ^ n) : Fr n (Mine.lw a b) :=
  ⟨lw_low hb, Nat.lt_of_le_of_lt (lw_le1 a b hb) h1, Nat.lt_of_le_of_lt (lw_le2 a b hb) h2⟩
theorem Fr.ne {n : Nat} {p : Int × Int} (h : Fr n p) : p.2 ≠ 0 := Int.ne_of_gt h.low.1
theorem nought_fr : Fr 40 (0, 1) := ⟨⟨by decide, by decide⟩, by decide, by decide⟩
theorem gcd_step (a b : Nat) : Nat.gcd b (a % b) = Nat.gcd a b := by rw [Nat.gcd_comm b, ← Nat.gcd_rec, Nat.gcd_comm]
theorem fmod_nat (a b : Nat) : (a : Int).fmod (b : Int) = ((a % b : Nat) : Int) := by rw [Int.fmod_eq_emod_of_nonneg _ (by exact om179)]; rfl
theorem run_shared (a b : Nat) (d : Nat) (σ : AH) : callD G (d + 1) "_law_shared" [.int a, .int b] σ = .ok (.int (Nat.gcd a b)) σ := by
  refine run_of fn_shared rfl rfl rfl fun c at_ => ?_
  refine vWhile.inv (fun n ρ σ' => ∃ x : Nat, σ' = σ ∧ ρ = .ini 3 [some (.int x), some (.int (n : Nat)), none] ∧ Nat.gcd x n = Nat.gcd a b) (fun k ρ σ ⟨x, _, e, _⟩ => e ▸ ok3 rfl rfl) ?_ b ⟨.ini 3 [some (.int a), some (.int b), none], rfl, a, rfl, rfl, rfl⟩
  rintro n ρ σ' ⟨x, rfl, rfl, h⟩
  refine pick.mk (fun e => ?_) fun e => ?_
  · have hn : (n : Int) ≠ 0 := fun q => by rw [q] at e; cases e
    refine v_mod hn ?_
    refine ⟨.ini 3 [some (.int n), some (.int ((x % n : Nat) : Int)), none], ?_, x % n, Nat.mod_lt _ (by exact om374 hn), n, rfl, rfl, by rw [gcd_step]; exact h⟩
    rw [← fmod_nat]; rfl
  · have e : (!((n : Int) == 0)) = false := e
    have hn : n = 0 := by
      have : (n : Int) = 0 := by
        cases q : ((n : Int) == 0) with
        | true => exact eq_of_beq q
        | false => rw [q] at e; cases e
      exact om373 this
    subst hn
    rw [Nat.gcd_zero_right] at h
    exact (left_p rfl).trans (by rw [h])
theorem ok5 {n : Nat} {a b c d : PV} (ha : isU a = false) (hb : isU b = false) (hc : isU c = false) (hd : isU d = false) : okE (.ini n [some a, some b, some c, some d]) := okE_ini fun v hv => by
  rcases List.mem_cons.mp hv with e | hv
  · cases e; exact ha
  · rcases List.mem_cons.mp hv with e | hv
    · cases e; exact hb
    · rcases List.mem_cons.mp hv with e | hv
      · cases e; exact hc
      · rcases List.mem_cons.mp hv with e | hv
        · cases e; exact hd
        · cases hv
theorem run_div (a b : Int) (d : Nat) (σ : AH) : callD G (d + 1) "divisor" [.int a, .int b] σ = .ok (.int (Int.gcd a b)) σ := by
  refine run_of fn_divisor rfl rfl rfl fun c at_ => ?_
  refine vWhile.inv (fun n ρ σ' => ∃ x : Nat, σ' = σ ∧ ρ = .ini 5 [some (.int a), some (.int b), some (.int x), some (.int (n : Nat))] ∧ Nat.gcd x n = Int.gcd a b) (fun k ρ σ ⟨x, _, e, _⟩ => e ▸ ok5 rfl rfl rfl rfl) ?_ b.natAbs ⟨.ini 5 [some (.int a), some (.int b), some (.int a.natAbs), some (.int b.natAbs)], rfl, a.natAbs, rfl, rfl, rfl⟩
  rintro n ρ σ' ⟨x, rfl, rfl, h⟩
  refine pick.mk (fun e => ?_) fun e => ?_
  · have hn : (n : Int) > 0 := of_decide_eq_true e
    refine v_mod (by exact om372 hn) ?_
    refine ⟨.ini 5 [some (.int a), some (.int b), some (.int n), some (.int ((x % n : Nat) : Int))], ?_, x % n, Nat.mod_lt _ (by exact om371 hn), n, rfl, rfl, by rw [gcd_step]; exact h⟩
    rw [← fmod_nat]; rfl
  · have hn : ¬ (n : Int) > 0 := of_decide_eq_false e
    have hn : n = 0 := by exact om348 hn
    subst hn
    rw [Nat.gcd_zero_right] at h
    exact (left_p rfl).trans (by rw [h])
noncomputable def fv (p : Int × Int) : PV := .tup [.int p.1, .int p.2]
theorem lw_eq {a b g : Int} (h : g = if b < 0 then -(Int.gcd a b : Int) else Int.gcd a b) : fv (lw a b) = .tup [.int (a.fdiv g), .int (b.fdiv g)] := by rw [h]; rfl
theorem run_lowest (a : Int) {b : Int} (hb : b ≠ 0) (d : Nat) (σ : AH) : callD G (d + 2) "_law_lowest" [.int a, .int b] σ = .ok (fv (lw a b)) σ := by
  have hg : 0 < Nat.gcd a.natAbs b.natAbs := gcd_pos hb
  have hgi : Int.gcd a b = Nat.gcd a.natAbs b.natAbs := rfl
  refine run_of fn_lowest rfl rfl rfl fun c at_ => ?_
  refine call_ at_ (run_shared a.natAbs b.natAbs d σ) ?_
  refine pick.mk (fun e => ?_) fun e => ?_
  · have hlt := of_decide_eq_true e
    rw [lw_eq (g := 0 - (Nat.gcd a.natAbs b.natAbs : Int)) (by rw [if_pos hlt, hgi]; exact om370)]
    refine v_div (by exact om369 hg) (v_div (by exact om369 hg) ?_)
    exact left_p rfl
  · have hlt := of_decide_eq_false e
    rw [lw_eq (g := (Nat.gcd a.natAbs b.natAbs : Int)) (by rw [if_neg hlt]; rfl)]
    refine v_div (by exact om177 hg) (v_div (by exact om177 hg) ?_)
    exact left_p rfl
theorem run_frac (a : Int) {b : Int} (hb : b ≠ 0) (d : Nat) (σ : AH) : callD G (d + 2) "fraction" [.int a, .int b] σ = .ok (fv (lw a b)) σ := by
  have hg : 0 < Int.gcd a b := gcd_pos hb
  refine run_of fn_fraction rfl rfl rfl fun c at_ => ?_
  refine pick.f (beq_eq_false_iff_ne.mpr hb) ?_
  refine call_ at_ (run_div a b d σ) ?_
  refine pick.mk (fun e => ?_) fun e => ?_
  · have hlt := of_decide_eq_true e
    rw [lw_eq (g := 0 - (Int.gcd a b : Int)) (by rw [if_pos hlt]; exact om370)]
    refine v_div (by exact om369 hg) (v_div (by exact om369 hg) ?_)
    exact left_p rfl
  · have hlt := of_decide_eq_false e
    rw [lw_eq (g := (Int.gcd a b : Int)) (by rw [if_neg hlt])]
    refine v_div (by exact om177 hg) (v_div (by exact om177 hg) ?_)
    exact left_p rfl
theorem left_x (keep : Bool) (σ : AH) (k : Str) : left keep σ (.exc k σ) = .exc k σ := by unfold left; simp
structure Bd (p : Int × Int) : Prop where
  up : p.1.natAbs < 2 ^ 100000
  dn : p.2.natAbs < 2 ^ 100000
section
variable {p q : Int × Int} (hp : Bd p) (hq : Bd q) (d : Nat) (σ : AH)
include hp hq
theorem run_product (h1 : p.2 ≠ 0) (h2 : q.2 ≠ 0) : callD G (d + 3) "product" [fv p, fv q] σ = .ok (fv (lw (p.1 * q.1) (p.2 * q.2))) σ := by
  refine run_of fn_product rfl rfl rfl fun c at_ => ?_
  refine v_mul (mulOk hp.up hq.up) (v_mul (mulOk hp.dn hq.dn) ?_)
  exact callX at_ (run_frac _ (Int.mul_ne_zero h1 h2) d σ) (left_p rfl)
theorem run_quotient (h1 : p.2 ≠ 0) (h2 : q.1 ≠ 0) : callD G (d + 3) "quotient" [fv p, fv q] σ = .ok (fv (lw (p.1 * q.2) (p.2 * q.1))) σ := by
  refine run_of fn_quotient rfl rfl rfl fun c at_ => ?_
  refine v_mul (mulOk hp.up hq.dn) (v_mul (mulOk hp.dn hq.up) ?_)
  exact callX at_ (run_frac _ (Int.mul_ne_zero h1 h2) d σ) (left_p rfl)
end
noncomputable def fpow (p : Int × Int) (i : Nat) : Int × Int := (p.1 ^ i, p.2 ^ i)
theorem fpow_bd {n : Nat} {p : Int × Int} (h : Fr n p) (hn : n ≤ 4000) {i : Nat} (hi : i ≤ 20) : Bd (fpow p i) := by
  have key : ∀ x : Int, x.natAbs < 2 ^ n → (x ^ i).natAbs < 2 ^ 100000 := fun x hx =>
    Nat.lt_of_lt_of_le (pow_lt_pow hx) (Nat.pow_le_pow_right (by decide) (Nat.le_trans (Nat.succ_le_succ (Nat.mul_le_mul hn hi)) (by decide)))
  exact ⟨key _ h.up, key _ h.dn⟩
theorem fpow_ne {n : Nat} {p : Int × Int} (h : Fr n p) (i : Nat) : (fpow p i).2 ≠ 0 := Int.pow_ne_zero h.ne
theorem run_fpow {n : Nat} {p : Int × Int} (h : Fr n p) (hn : n ≤ 4000) {i j : Nat} (hi : i ≤ 20) (hj : j ≤ 20) (d : Nat) (σ : AH) : callD G (d + 3) "product" [fv (fpow p i), fv (fpow p j)] σ = .ok (fv (fpow p (i + j))) σ := by
  rw [run_product (fpow_bd h hn hi) (fpow_bd h hn hj) d σ (fpow_ne h i) (fpow_ne h j)]
  rw [show lw ((fpow p i).1 * (fpow p j).1) ((fpow p i).2 * (fpow p j).2) = fpow p (i + j) from lw_pows (a := p.1) (b := p.2) h.low i j]
theorem fpow0 (p : Int × Int) : fpow p 0 = (1, 1) := by simp [fpow]
theorem fpow1 (p : Int × Int) : fpow p 1 = p := by obtain ⟨a, b⟩ := p; simp [fpow, Int.pow_succ]
theorem run_raised_pos {n : Nat} {p : Int × Int} (h : Fr n p) (hn : n ≤ 4000) {k : Nat} (hk : k ≤ 20) (d : Nat) (σ : AH) : callD G (d + 4) "raised" [fv p, .int k] σ = .ok (fv (fpow p k)) σ := by
  refine run_of fn_raised rfl rfl rfl fun c at_ => ?_
  refine vWhile.inv (fun m ρ σ' => ∃ i j : Nat, σ' = σ ∧ ρ = .ini 4 [some (fv p), some (.int (m : Nat)), some (fv (fpow p i)), some (fv (fpow p j))] ∧ i + j * m = k ∧ i ≤ 20 ∧ j ≤ 20) (fun _ ρ σ ⟨i, j, _, e, _⟩ => e ▸ ok5 rfl rfl rfl rfl) ?_ k ⟨.ini 4 [some (fv p), some (.int k), some (fv (fpow p 0)), some (fv (fpow p 1))], by rw [fpow1, fpow0]; rfl, 0, 1, rfl, rfl, by exact om368, by decide, by decide⟩
  rintro m ρ σ' ⟨i, j, rfl, rfl, hs, hi, hj⟩
  refine pick.mk (fun e => ?_) fun e => ?_
  · have hm : (m : Int) > 0 := of_decide_eq_true e
    have hm1 : 1 ≤ m := by exact om367 hm
    have hjm : j * m ≤ 20 := by exact om695 hk hs
    have hd2 : ((m : Int).fdiv 2) = ((m / 2 : Nat) : Int) := by rw [Int.fdiv_eq_ediv_of_nonneg _ (by decide)]; rfl
    have hm2 : m = 2 * (m / 2) + m % 2 := by exact om365
    have hj' : j * m = 2 * (j * (m / 2)) + j * (m % 2) := by
      conv => lhs; rw [hm2]
      rw [Nat.mul_add, Nat.mul_left_comm]
    refine pick.mk (fun e => ?_) fun e => ?_
    · have e : ((m : Int).fmod 2 == 1) = true := e
      have he : m % 2 = 1 := by have := eq_of_beq e; rw [show (2 : Int) = ((2 : Nat) : Int) from rfl, fmod_nat] at this; exact om364 this
      rw [he, Nat.mul_one] at hj'
      have hjle : j ≤ 20 - i := by have := Nat.zero_le (j * (m / 2)); exact om694 hk hs hj'
      refine call_ at_ (run_fpow h hn hi hj d σ') ?_
      refine pick.mk (fun e2 => ?_) fun e2 => ?_
      · have h2 : (m : Int).fdiv 2 > 0 := of_decide_eq_true e2
        rw [hd2] at h2
        have hj2 : j + j ≤ 20 := by
          have : j * 1 ≤ j * (m / 2) := Nat.mul_le_mul_left j (by exact om362 h2)
          exact om693 hjm hj' this
        refine call_ at_ (run_fpow h hn hj hj d σ') ?_
        refine ⟨.ini 4 [some (fv p), some (.int (m / 2 : Nat)), some (fv (fpow p (i + j))), some (fv (fpow p (j + j)))], by rw [← hd2]; rfl, m / 2, by exact om360 h2, i + j, j + j, rfl, rfl, by rw [Nat.add_mul]; exact om359 hs hj', by exact om692 hi hjle, hj2⟩
      · have h2 : ¬ (m : Int).fdiv 2 > 0 := of_decide_eq_false e2
        rw [hd2] at h2
        have h20 : m / 2 = 0 := by exact om358 h2
        refine ⟨.ini 4 [some (fv p), some (.int (m / 2 : Nat)), some (fv (fpow p (i + j))), some (fv (fpow p j))], by rw [← hd2]; rfl, m / 2, by exact om357 he, i + j, j, rfl, rfl, by rw [h20] at hj' ⊢; exact om356 hs hj', by exact om692 hi hjle, hj⟩
    · have e : ((m : Int).fmod 2 == 1) = false := e
      have he : m % 2 = 0 := by
        have : ¬ (m : Int).fmod 2 = 1 := beq_eq_false_iff_ne.mp e
        rw [show (2 : Int) = ((2 : Nat) : Int) from rfl, fmod_nat] at this; exact om354 this
      rw [he, Nat.mul_zero] at hj'
      refine pick.t (decide_eq_true (show (m : Int).fdiv 2 > 0 by rw [hd2]; exact om353 hm1 he)) ?_
      have hj2 : j + j ≤ 20 := by
        have : j * 1 ≤ j * (m / 2) := Nat.mul_le_mul_left j (by exact om352 hm1 he)
        exact om691 hjm hj' this
      refine call_ at_ (run_fpow h hn hj hj d σ') ?_
      refine ⟨.ini 4 [some (fv p), some (.int (m / 2 : Nat)), some (fv (fpow p i)), some (fv (fpow p (j + j)))], by rw [← hd2]; rfl, m / 2, by exact om350 hm1, i, j + j, rfl, rfl, by rw [Nat.add_mul]; exact om349 hs hj', hi, hj2⟩
  · have hm : ¬ (m : Int) > 0 := of_decide_eq_false e
    have hm : m = 0 := by exact om348 hm
    subst hm
    have : i = k := by assumption
    subst this
    exact left_p rfl
theorem one_bd : Bd (1, 1) := ⟨by show 1 < _; exact Nat.one_lt_two_pow (by decide), by show 1 < _; exact Nat.one_lt_two_pow (by decide)⟩
end Mine

set_option autoImplicit false
set_option maxRecDepth 100000
set_option linter.unusedVariables false
set_option linter.unusedSimpArgs false
set_option exponentiation.threshold 2000
namespace Mine
open PySem
theorem run_number (cell : Int) (d : Nat) (σ : AH) : ∃ p, Fr 40 p ∧ callD G (d + 3) "_law_number" [.int cell] σ = .ok (fv p) σ := by
  refine run_ex (P := fun r => ∃ p, Fr 40 p ∧ r = .ok (fv p) σ) fn_number rfl rfl rfl fun c at_ => ?_
  refine pick.mk (fun e => ?_) fun e => ?_
  · have b5 := fmod_bd (cell.fdiv 246) (n := 5) (by decide)
    have b41 := fmod_bd (cell.fdiv 6) (n := 41) (by decide)
    have hb : 1 + (cell.fdiv 246).fmod 5 ≠ 0 := by exact om420 b5
    refine call_ at_ (run_lowest ((cell.fdiv 6).fmod 41 - 20) hb d σ) ?_
    refine ⟨_, Fr.lw hb ?_ ?_, left_p rfl⟩
    · exact Nat.lt_of_lt_of_le (show _ < 100 by exact om419 b41) (by decide)
    · exact Nat.lt_of_lt_of_le (show _ < 100 by exact om418 b5) (by decide)
  · refine pick.mk (fun e => ?_) fun e => ?_
    · exact ⟨_, nought_fr, left_p rfl⟩
    · have e9 : (10 : Int) ^ Int.toNat 9 = 1000000000 := by decide +kernel
      have b9 := fmod_bd (cell.fdiv 6) (n := 1000000000) (by decide)
      have b7 := fmod_bd (cell.fdiv (6 ^ Int.toNat 3) * 7) (n := 2000000001) (by decide)
      have hb : 1 + (cell.fdiv 6).fmod (10 ^ Int.toNat 9) ≠ 0 := by rw [e9]; exact om417 b9
      refine v_mul (mul_r rfl) (v_mul (mul_l rfl) ?_)
      refine call_ at_ (run_lowest ((cell.fdiv (6 ^ Int.toNat 3) * 7).fmod (2 * 10 ^ Int.toNat 9 + 1) - 10 ^ Int.toNat 9) hb d σ) ?_
      refine ⟨_, Fr.lw hb ?_ ?_, left_p rfl⟩
      · refine Nat.lt_of_lt_of_le (show _ < 2000000002 from ?_) (by decide)
        rw [e9]
        show ((cell.fdiv (6 ^ Int.toNat 3) * 7).fmod 2000000001 - 1000000000).natAbs < 2000000002
        exact om416 b7
      · refine Nat.lt_of_lt_of_le (show _ < 2000000002 from ?_) (by decide)
        rw [e9]; exact om415 b9
noncomputable def T.ok : T → Prop
  | .is n m => ∃ p, n = fv p ∧ Fr 40 p ∧ SM m
  | .nou => True
  | .inp _ => True
  | .pow a _ => a.ok
  | .bin _ a b => a.ok ∧ b.ok
  | .less a b c d => a.ok ∧ b.ok ∧ c.ok ∧ d.ok
theorem ok_pure : ∀ {t : T}, t.ok → t.pure
  | .is n m, ⟨p, h, _⟩ => by subst h; rfl
  | .nou, _ => trivial
  | .inp _, _ => trivial
  | .pow a k, h => ok_pure (t := a) h
  | .bin o a b, h => ⟨ok_pure h.1, ok_pure h.2⟩
  | .less a b c d, h => ⟨ok_pure h.1, ok_pure h.2.1, ok_pure h.2.2.1, ok_pure h.2.2.2⟩
structure Gd (H : Nat) (t : T) : Prop where
  ok : t.ok
  ht : t.ht ≤ H
theorem Gd.more {H H2 : Nat} {a : T} (h : Gd H a) (h2 : H ≤ H2) : Gd H2 a := ⟨h.ok, Nat.le_trans h.ht h2⟩
theorem Gd.tv {H : Nat} {a : T} (h : Gd H a) : pureV (Mine.tv a) = true := tv_pure (ok_pure h.ok)
structure Wd (ws ls : List Str) : Prop where
  w1 : 1 ≤ ws.length
  w2 : ws.length ≤ 1000
  l1 : 1 ≤ ls.length
  l2 : ls.length ≤ 1000
theorem run_leaf {ws ls : List Str} (W : Wd ws ls) (cell : Int) (d : Nat) (σ : AH) : ∃ t, Gd 1 t ∧ callD G (d + 4) "_law_leaf" [.int cell, .lst (ws.map .str), .lst (ls.map .str)] σ = .ok (tv t) σ := by
  have zl : ((ws.map PV.str).length : Int) ≠ 0 := by rw [List.length_map]; have := W.w1; exact om174 this
  have hll : (ws.map PV.str).length ≤ 1000000 := by rw [List.length_map]; have := W.w2; exact om4 this
  refine run_ex (P := fun r => ∃ t, Gd 1 t ∧ r = .ok (tv t) σ) fn_leaf rfl rfl rfl fun c at_ => ?_
  refine pick.mk (fun e => ?_) fun e => ?_
  · obtain ⟨w, hw, hi⟩ := idx_mod σ W.w1 W.w2 (cell.fdiv 6)
    refine v_bi (len_lst _ _ hll) (v_mod zl (v_get hi ?_))
    exact ⟨.inp w, ⟨trivial, Nat.le_refl _⟩, left_p rfl⟩
  · refine pick.mk (fun e => ?_) fun e => ?_
    · exact ⟨.nou, ⟨trivial, Nat.le_refl _⟩, left_p rfl⟩
    · obtain ⟨p, hp, hn⟩ := run_number (mix (cell.fdiv 6) 9) d σ
      obtain ⟨m, hm0, hm⟩ := run_small (cell.fdiv 6) W.l1 W.l2 (d + 1) σ
      refine call_ at_ (run_mix (cell.fdiv 6) 9 (d + 2) σ) ?_
      refine call_ at_ hn ?_
      refine call_ at_ hm ?_
      exact ⟨.is (fv p) m, ⟨⟨p, rfl, hp, hm0⟩, Nat.le_refl _⟩, left_p (tv_pure (t := .is (fv p) m) rfl)⟩
theorem op_pick (x : Int) : ∃ o : Op, ∀ σ, getAt σ (.lst [.str "plus", .str "minus", .str "times", .str "over"]) (.int (x.fmod 4)) = some (.v (.str o.word)) := by
  have := fmod_bd x (n := 4) (by decide)
  have h : x.fmod 4 = 0 ∨ x.fmod 4 = 1 ∨ x.fmod 4 = 2 ∨ x.fmod 4 = 3 := by exact om170 this
  rcases h with h | h | h | h <;> rw [h]
  · exact ⟨.plus, fun _ => rfl⟩
  · exact ⟨.minus, fun _ => rfl⟩
  · exact ⟨.times, fun _ => rfl⟩
  · exact ⟨.over, fun _ => rfl⟩
theorem run_tree {ws ls : List Str} (W : Wd ws ls) : ∀ (n : Nat) (cell D pw : Int) (d : Nat) (σ : AH), D ≤ n → ∃ t, Gd (n + 1) t ∧ callD G (d + n + 5) "_law_tree" [.int cell, .int D, .tup [.lst (ws.map .str), .lst (ls.map .str)], .int pw] σ = .ok (tv t) σ := by
  intro n
  induction n with
  | zero =>
    intro cell D pw d σ hD
    obtain ⟨t, h1, h2⟩ := run_leaf W (cell.fdiv 9) d σ
    refine ⟨t, h1, run_of fn_tree rfl rfl rfl fun c at_ => ?_⟩
    refine pick.t (decide_eq_true (show D < 1 by exact om404 hD)) (pick.t (decide_eq_true (show D < 1 by exact om404 hD)) ?_)
    exact call_ at_ h2 (left_p (h1.tv))
  | succ n ih =>
    intro cell D pw d σ hD
    refine run_ex (P := fun r => ∃ t, Gd (n + 1 + 1) t ∧ r = .ok (tv t) σ) fn_tree rfl rfl rfl fun c at_ => ?_
    have leafy : ∃ t, Gd (n + 1 + 1) t ∧ callD G (d + (n + 1) + 4) "_law_leaf" [.int (cell.fdiv 9), .lst (ws.map .str), .lst (ls.map .str)] σ = .ok (tv t) σ := by
      obtain ⟨t, h1, h2⟩ := run_leaf W (cell.fdiv 9) (d + (n + 1)) σ
      exact ⟨t, h1.more (by exact om401), h2⟩
    obtain ⟨tl, l1, l2⟩ := leafy
    refine pick.mk (fun e => ?_) fun e0 => ?_
    · refine pick.t e ?_
      exact call_ at_ l2 ⟨tl, l1, left_p (l1.tv)⟩
    refine pick.mk (fun e => ?_) fun e1 => ?_
    · exact call_ at_ l2 ⟨tl, l1, left_p (l1.tv)⟩
    have mx := fun k => run_mix cell k (d + n + 4) σ
    obtain ⟨a, a1, a2⟩ := ih (mix cell 1) (D - 1) (pw - (cell.fmod 9).fdiv 8) d σ (by exact om163 hD)
    refine call_ at_ (mx 1) (call_ at_ a2 ?_)
    refine v_upd (isU_tv a) rfl ?_
    have g1 : Gd (n + 1 + 1) (.pow a ((cell.fdiv 9).fmod 9 - 4)) := ⟨a1.ok, by have := a1.ht; simp only [T.ht]; exact om155 this⟩
    obtain ⟨b, b1, b2⟩ := ih (mix cell 2) (D - 1) pw d σ (by exact om163 hD)
    obtain ⟨f, f1, f2⟩ := ih (mix cell 3) (D - 2) pw d σ (by exact om397 hD)
    obtain ⟨g, g1', g2⟩ := ih (mix cell 4) (D - 2) pw d σ (by exact om397 hD)
    obtain ⟨o, ho⟩ := op_pick (cell.fdiv 9)
    have gb : Gd (n + 1 + 1) (.bin o a b) := ⟨⟨a1.ok, b1.ok⟩, by have := a1.ht; have := b1.ht; simp only [T.ht]; exact om149 (by assumption) this⟩
    have gl : Gd (n + 1 + 1) (.less a b f g) := ⟨⟨a1.ok, b1.ok, f1.ok, g1'.ok⟩, by have := a1.ht; have := b1.ht; have := f1.ht; have := g1'.ht; simp only [T.ht]; exact om697 (by assumption) (by assumption) (by assumption) this⟩
    refine pick.mk (fun e8 => ?_) fun e8 => ?_
    · refine pick.mk (fun ep => ?_) fun ep => ?_
      · exact ⟨_, g1, left_p g1.tv⟩
      · refine call_ at_ (mx 2) (call_ at_ b2 (v_upd (isU_tv b) rfl ?_))
        have h8 := eq_of_beq (show (cell.fmod 9 == 8) = true from e8)
        refine pick.f (show (cell.fmod 9 == 7) = false by rw [h8]; rfl) ?_
        refine v_get (ho σ) ?_
        exact ⟨_, gb, left_p gb.tv⟩
    · refine pick.f e8 ?_
      refine call_ at_ (mx 2) (call_ at_ b2 (v_upd (isU_tv b) rfl ?_))
      refine pick.mk (fun e7 => ?_) fun e7 => ?_
      · refine call_ at_ (mx 3) (call_ at_ f2 (v_upd (isU_tv f) rfl ?_))
        refine call_ at_ (mx 4) (call_ at_ g2 ?_)
        exact ⟨_, gl, left_p gl.tv⟩
      · refine v_get (ho σ) ?_
        exact ⟨_, gb, left_p gb.tv⟩
end Mine

set_option autoImplicit false
set_option maxRecDepth 100000
set_option linter.unusedVariables false
set_option linter.unusedSimpArgs false
set_option exponentiation.threshold 2000
namespace Mine
open PySem
theorem vFor.listI {α : Type} {c : Cx} {body : PSs} {t : Tgt} {ks : List Nat} {l : List PV} {v : PV} {ρ : Nv} {σ : AH} {K : Flw → Nv → AH → Prop} {X : Str → AH → Prop} (el : α → PV) (xs : List α) (I : List α → Nv → AH → Prop) (hI : ∀ d ρ σ, I d ρ σ → okE ρ) (hl : l = xs.map el) (h0 : Like (I []) (killO ks ρ) (lockV σ v true))
    (hs : ∀ done x rest ρ σ', done ++ x :: rest = xs → I done ρ σ' → onO (bindO t (el x) ρ) fun ρ1 => vSs c body ρ1 σ' (forK v (lkV σ v) ks K (Like (I (done ++ [x])))) fun e σ' => X e (lockV σ' v (lkV σ v)))
    (hk : ∀ ρ σ', I xs ρ σ' → K .next ρ (lockV σ' v (lkV σ v))) : vFor c body t ks l v ρ σ K X := by
  subst hl
  refine vFor.inv (fun k => I (xs.take k)) (fun k => hI _) h0 (fun k x ρ' σ' hx h => ?_) fun ρ' σ' h => hk ρ' σ' ?_
  · rw [List.getElem?_map] at hx
    obtain ⟨y, hy, rfl⟩ := Option.map_eq_some_iff.mp hx
    have e : xs.take (k + 1) = xs.take k ++ [y] := by rw [List.take_add_one, hy]; rfl
    obtain ⟨hk, hg⟩ := List.getElem?_eq_some_iff.mp hy
    have := hs (xs.take k) y (xs.drop (k + 1)) ρ' σ' (by rw [← hg, ← List.drop_eq_getElem_cons hk, List.take_append_drop]) h
    rw [← e] at this
    exact this
  · rw [List.length_map, List.take_length] at h; exact h
theorem int_pick {x : Int} (h : x = 0 ∨ x = 1) (a b : Int) : ∃ n : Int, (n = a ∨ n = b) ∧ ∀ σ, getAt σ (.lst [.int a, .int b]) (.int x) = some (.v (.int n)) := by
  rcases h with h | h <;> rw [h]
  · exact ⟨a, .inl rfl, fun _ => rfl⟩
  · exact ⟨b, .inr rfl, fun _ => rfl⟩
theorem fmod2 (x : Int) : x.fmod 2 = 0 ∨ x.fmod 2 = 1 := by have := fmod_bd x (n := 2) (by decide); exact om200 this
theorem bif_f {b c : Bool} (h : b = false) (k : c = true) : (bif b then false else c) = true := by rw [h]; exact k
structure Un (p : Int × Int) : Prop where
  fr : Fr 14 p
  pos : 0 < p.1
theorem lw_up {a b : Int} (ha : 0 < a) (hb : 0 < b) : 0 < (lw a b).1 := by
  rw [lw_pos hb]
  exact Int.ediv_pos_of_pos_of_dvd ha (Int.natCast_nonneg _) (Int.gcd_dvd_left ..)
theorem run_unit (cell : Int) (d : Nat) (σ : AH) : ∃ p, Un p ∧ callD G (d + 3) "_law_unit" [.int cell] σ = .ok (fv p) σ := by
  obtain ⟨n, hn, en⟩ := int_pick (fmod2 (cell.fdiv 9)) 9 10000
  obtain ⟨m, hm, em⟩ := int_pick (fmod2 (cell.fdiv 90)) 5 10000
  have hn0 : 0 < n ∧ n ≤ 10000 := by exact om706 hn
  have hm0 : 0 < m ∧ m ≤ 10000 := by exact om705 hm
  have b1 := fmod_bd cell hn0.1
  have b2 := fmod_bd (cell.fdiv 18) hm0.1
  generalize ha : 1 + cell.fmod n = a at *
  generalize hb : 1 + (cell.fdiv 18).fmod m = b at *
  have a1 : 0 < a := by exact om704 b1 ha
  have h1 : 0 < b := by exact om704 b2 hb
  refine ⟨lw a b, ⟨Fr.lw (by exact om703 h1) (show a.natAbs < 16384 by exact om702 hn0 b1 ha) (show b.natAbs < 16384 by exact om702 hm0 b2 hb), lw_up a1 h1⟩, ?_⟩
  subst ha hb
  refine run_of fn_unit rfl rfl rfl fun c at_ => ?_
  refine v_get (en σ) (v_mod (by exact om701 b1) ?_)
  refine v_get (em σ) (v_mod (by exact om701 b2) ?_)
  exact call_ at_ (run_lowest _ (by exact om700 h1) d σ) (left_p rfl)
noncomputable def up (p : Int × Int) (n : Int) : Int × Int := if n < 0 then (p.2 ^ n.natAbs, p.1 ^ n.natAbs) else (p.1 ^ n.natAbs, p.2 ^ n.natAbs)
theorem run_raised {p : Int × Int} (h : Un p) {n : Int} (hn : n.natAbs ≤ 20) (d : Nat) (σ : AH) : callD G (d + 5) "raised" [fv p, .int n] σ = .ok (fv (up p n)) σ := by
  by_cases h0 : n < 0
  · rw [show up p n = (p.2 ^ n.natAbs, p.1 ^ n.natAbs) from if_pos h0]
    refine run_of fn_raised rfl rfl rfl fun c at_ => ?_
    refine pick.t (decide_eq_true h0) ?_
    have e : (0 : Int) - n = (n.natAbs : Nat) := by exact om699 h0
    have r1 := run_raised_pos h.fr (by decide) hn d σ
    rw [← e] at r1
    refine call_ at_ r1 ?_
    have hl : Low (p.2 ^ n.natAbs, p.1 ^ n.natAbs) := low_pow ⟨h.pos, (Int.gcd_comm ..).trans h.fr.low.2⟩ _
    have r2 := run_quotient one_bd (fpow_bd h.fr (by decide) hn) (d + 1) σ (by decide) (Int.pow_ne_zero (Int.ne_of_gt h.pos))
    rw [show lw ((1 : Int) * (fpow p n.natAbs).2) (1 * (fpow p n.natAbs).1) = (p.2 ^ n.natAbs, p.1 ^ n.natAbs) by rw [Int.one_mul, Int.one_mul]; exact lw_self hl] at r2
    exact callX at_ r2 (left_p rfl)
  · rw [show up p n = (p.1 ^ n.natAbs, p.2 ^ n.natAbs) from if_neg h0]
    have r1 := run_raised_pos h.fr (by decide) hn (d + 1) σ
    rw [show ((n.natAbs : Nat) : Int) = n by exact om698 h0] at r1
    exact r1
theorem lw_k {a b k : Int} (hb : 0 < b) (hk : 0 < k) : lw (k * a) (k * b) = lw a b := by
  rw [lw_pos hb, lw_pos (Int.mul_pos hk hb), Int.gcd_mul_left, Int.natCast_mul, Int.natAbs_of_nonneg (Int.le_of_lt hk), Int.mul_ediv_mul_of_pos _ _ hk, Int.mul_ediv_mul_of_pos _ _ hk]
theorem lw_mul {A B c d : Int} (hB : 0 < B) (hd : 0 < d) : lw ((lw A B).1 * c) ((lw A B).2 * d) = lw (A * c) (B * d) := by
  have hg : 0 < (Int.gcd A B : Int) := Int.natCast_pos.mpr (gcd_pos (Int.ne_of_gt hB))
  have h1 : A = (Int.gcd A B : Int) * (A / (Int.gcd A B : Int)) := (Int.mul_ediv_cancel' (Int.gcd_dvd_left ..)).symm
  have h2 : B = (Int.gcd A B : Int) * (B / (Int.gcd A B : Int)) := (Int.mul_ediv_cancel' (Int.gcd_dvd_right ..)).symm
  have h3 : 0 < B / (Int.gcd A B : Int) := Int.ediv_pos_of_pos_of_dvd hB (Int.le_of_lt hg) (Int.gcd_dvd_right ..)
  rw [lw_pos hB]
  show lw (A / (Int.gcd A B : Int) * c) (B / (Int.gcd A B : Int) * d) = _
  rw [← lw_k (Int.mul_pos h3 hd) hg, ← Int.mul_assoc, ← Int.mul_assoc, ← h1, ← h2]
end Mine

set_option autoImplicit false
set_option maxRecDepth 100000
set_option linter.unusedVariables false
set_option linter.unusedSimpArgs false
set_option exponentiation.threshold 2000
namespace Mine
open PySem
noncomputable abbrev FI := List (Str × (Int × Int))
noncomputable def fd (L : FI) : List (Str × PV) := L.map fun kv => (kv.1, fv kv.2)
theorem fd_len (L : FI) : (fd L).length = L.length := List.length_map ..
theorem fd_put (L : FI) (k : Str) (p : Int × Int) : dput (fd L) k (fv p) = fd (dput L k p) := by
  unfold dput fd
  simp only [List.any_map, Function.comp_def, List.map_map]
  split
  · rw [List.map_map]
    apply List.map_congr_left
    intro kv _
    simp only [Function.comp]
    split <;> rfl
  · simp
theorem fd_get (L : FI) (k : Str) : dget (fd L) k = (dget L k).map fv := by
  unfold dget fd
  rw [List.find?_map]
  simp only [Function.comp_def, Option.map_map]
theorem fd_del (L : FI) (k : Str) : ddel (fd L) k = fd (ddel L k) := by
  unfold ddel fd
  rw [List.filter_map]; rfl
theorem fd_has (L : FI) (k : Str) : dhas (fd L) k = dhas L k := by
  unfold dhas fd
  rw [List.any_map]; rfl
theorem get_dct (σ : AH) (D : List (Str × PV)) {w : Str} {v : PV} (h : dget D w = some v) : getAt σ (.dct D) (.str w) = some (.v v) := by
  show (dget D w).map Out.v = _
  rw [h]; rfl
theorem notin_d (σ : AH) {D : List (Str × PV)} {v : PV} (hd : deref σ v = .dct D) (h : D.length ≤ 1000000) (w : Str) : cmpP σ .NotIn (.str w) v = some (!dhas D w) := by
  show both strOf dctOf (.str w) (deref σ v) _ none = _
  rw [hd]
  exact if_pos (decide_eq_true h)
theorem dhas_get {α : Type} {D : List (Str × α)} {w : Str} (h : dhas D w = true) : ∃ v, dget D w = some v := by
  refine dget_some ?_
  obtain ⟨p, hp, e⟩ := List.any_eq_true.mp h
  exact List.mem_map.mpr ⟨p, hp, of_decide_eq_true e⟩
theorem isa_no : (G.isa "NoValue" "NoValue" && G.isa "NoValue" "!") = true := by decide +kernel
structure UOk (U : FI) : Prop where
  un : ∀ kv ∈ U, Un kv.2
  len : U.length ≤ 5
  nd : (U.map (·.1)).Nodup
theorem UOk.len' {U : FI} (h : UOk U) : (fd U).length ≤ 1000000 := by rw [fd_len]; exact Nat.le_trans h.len (by decide)
noncomputable def uG (U : FI) (w : Str) : Int × Int := (dget U w).getD (1, 1)
theorem UOk.at {U : FI} (h : UOk U) (w : Str) : Un (uG U w) := by
  unfold uG
  cases q : dget U w with
  | none => exact ⟨⟨⟨by decide, by decide⟩, by decide, by decide⟩, by decide⟩
  | some p => exact h.un _ (mem_of_dget q)
theorem uG_get {U : FI} {w : Str} (h : dhas U w = true) : dget (fd U) w = some (fv (uG U w)) := by
  obtain ⟨p, hp⟩ := dhas_get h
  unfold uG
  rw [fd_get, hp]; rfl
structure PB (k : Nat) (p : Int × Int) : Prop where
  p1 : 0 < p.1
  p2 : 0 < p.2
  b1 : p.1.natAbs < 2 ^ k
  b2 : p.2.natAbs < 2 ^ k
theorem PB.mul {k l : Nat} {p q : Int × Int} (h : PB k p) (h' : PB l q) : PB (k + l) (p.1 * q.1, p.2 * q.2) :=
  ⟨Int.mul_pos h.p1 h'.p1, Int.mul_pos h.p2 h'.p2, mul_lt_pow h.b1 h'.b1, mul_lt_pow h.b2 h'.b2⟩
theorem PB.bd {k : Nat} {p : Int × Int} (h : PB k p) (hk : k ≤ 100000) : Bd p :=
  ⟨Nat.lt_of_lt_of_le h.b1 (Nat.pow_le_pow_right (by decide) hk), Nat.lt_of_lt_of_le h.b2 (Nat.pow_le_pow_right (by decide) hk)⟩
theorem PB.lw {k : Nat} {p : Int × Int} (h : PB k p) : PB k (Mine.lw p.1 p.2) :=
  ⟨lw_up h.p1 h.p2, (lw_low (Int.ne_of_gt h.p2)).1, Nat.lt_of_le_of_lt (lw_le1 _ _ (Int.ne_of_gt h.p2)) h.b1, Nat.lt_of_le_of_lt (lw_le2 _ _ (Int.ne_of_gt h.p2)) h.b2⟩
theorem Un.pb {p : Int × Int} (h : Un p) : PB 14 p := ⟨h.pos, h.fr.low.1, h.fr.up, h.fr.dn⟩
theorem PB.pow {p : Int × Int} (h : PB 14 p) {k : Nat} (hk : k ≤ 20) : PB 281 (p.1 ^ k, p.2 ^ k) := by
  have e : 14 * k + 1 ≤ 281 := by exact om713 hk
  exact ⟨Int.pow_pos h.p1, Int.pow_pos h.p2, Nat.lt_of_lt_of_le (pow_lt_pow h.b1) (Nat.pow_le_pow_right (by decide) e), Nat.lt_of_lt_of_le (pow_lt_pow h.b2) (Nat.pow_le_pow_right (by decide) e)⟩
theorem PB.swap {k : Nat} {p : Int × Int} (h : PB k p) : PB k (p.2, p.1) := ⟨h.p2, h.p1, h.b2, h.b1⟩
theorem up_pb {p : Int × Int} (h : Un p) {n : Int} (hn : n.natAbs ≤ 20) : PB 281 (up p n) := by
  unfold up
  split
  · exact h.pb.swap.pow hn
  · exact h.pb.pow hn
noncomputable def stp (U : FI) (ab : Int × Int) (kv : Str × Int) : Int × Int := (ab.1 * (up (uG U kv.1) kv.2).1, ab.2 * (up (uG U kv.1) kv.2).2)
noncomputable def pr (U : FI) (m : DI) : Int × Int := m.foldl (stp U) (1, 1)
theorem pr_snoc (U : FI) (m : DI) (x : Str × Int) : pr U (m ++ [x]) = stp U (pr U m) x := by unfold pr; rw [List.foldl_append]; rfl
theorem pr_go {U : FI} (hU : UOk U) : ∀ (m : DI) (k : Nat) (ab : Int × Int), (∀ kv ∈ m, kv.2.natAbs ≤ 20) → PB k ab → PB (k + 281 * m.length) (m.foldl (stp U) ab)
  | [], k, ab, _, h => h
  | kv :: m, k, ab, hm, h => by
    have := pr_go hU m (k + 281) (stp U ab kv) (fun x hx => hm x (List.mem_cons_of_mem _ hx)) (h.mul (up_pb (hU.at kv.1) (hm kv List.mem_cons_self)))
    rw [show k + 281 + 281 * m.length = k + 281 * (kv :: m).length by rw [List.length_cons]; exact om712] at this
    exact this
theorem one_pb : PB 1 (1, 1) := ⟨by decide, by decide, by decide, by decide⟩
theorem pr_pb {U : FI} (hU : UOk U) {m d r : DI} (hm : SM m) (e : d ++ r = m) : PB 1000 (pr U d) := by
  have hl : d.length ≤ 3 := Nat.le_trans (by rw [← e, List.length_append]; exact Nat.le_add_right ..) hm.1
  have h := pr_go hU d 1 (1, 1) (fun kv hkv => hm.2 kv (e ▸ List.mem_append_left _ hkv)) one_pb
  have h1 : 1 + 281 * d.length ≤ 1000 := by exact om711 hl
  exact ⟨h.p1, h.p2, Nat.lt_of_lt_of_le h.b1 (Nat.pow_le_pow_right (by decide) h1), Nat.lt_of_lt_of_le h.b2 (Nat.pow_le_pow_right (by decide) h1)⟩
noncomputable def has (U : FI) (m : DI) : Bool := m.all fun kv => dhas U kv.1
noncomputable def sc (U : FI) (m : DI) : Option (Int × Int) := if has U m then some (lw (pr U m).1 (pr U m).2) else none
theorem sc_no {U : FI} {m d r : DI} {x : Str × Int} (e : d ++ x :: r = m) (h : dhas U x.1 = false) : sc U m = none := by
  have : has U m = false := List.all_eq_false.mpr ⟨x, e ▸ List.mem_append_right _ List.mem_cons_self, by rw [h]; exact Bool.false_ne_true⟩
  unfold sc; rw [this]; rfl
theorem sc_ok {U : FI} {m : DI} (h : ∀ kv ∈ m, dhas U kv.1 = true) : sc U m = some (lw (pr U m).1 (pr U m).2) := if_pos (List.all_eq_true.mpr h)
theorem not_f {b : Bool} (h : (!b) = false) : b = true := by cases b; cases h; rfl
theorem not_t {b : Bool} (h : (!b) = true) : b = false := by cases b; rfl; cases h
theorem all_snoc {α : Type} {P : α → Prop} {d : List α} {x : α} (h : ∀ y ∈ d, P y) (hx : P x) : ∀ y ∈ d ++ [x], P y := fun y hy => by
  rcases List.mem_append.mp hy with q | q
  · exact h y q
  · rw [List.mem_singleton.mp q]; exact hx
noncomputable def outX (o : Option (Int × Int)) (σ : AH) : Res PV := match o with
  | some r => .ok (fv r) σ
  | none => .exc "NoValue" σ
noncomputable def outN (o : Option (Int × Int)) : PV := match o with
  | some r => fv r
  | none => .none
noncomputable def mel (kv : Str × Int) : PV := .tup [.str kv.1, .int kv.2]
theorem lw_one (U : FI) : fv (lw (pr U []).1 (pr U []).2) = .tup [.int 1, .int 1] := congrArg fv (lw_self (p := (1, 1)) ⟨by decide, by decide⟩)
theorem run_scale {U : FI} (hU : UOk U) {m : DI} (hm : SM m) (d : Nat) (σ : AH) : callD G (d + 6) "scale" [mv m, .dct (fd U)] σ = outX (sc U m) σ := by
  refine run_of fn_scale rfl rfl rfl fun c at_ => ?_
  refine vFor.listI mel m (fun dn ρ σ' => σ' = σ ∧ (∀ kv ∈ dn, dhas U kv.1 = true) ∧ ρ = .ini 5 [some (mv m), some (.dct (fd U)), some (fv (lw (pr U dn).1 (pr U dn).2))]) (fun dn ρ σ' ⟨_, _, e⟩ => e ▸ okE_l rfl) rfl ⟨.ini 5 [some (mv m), some (.dct (fd U)), some (fv (lw (pr U []).1 (pr U []).2))], by rw [lw_one]; rfl, rfl, (fun _ q => nomatch q), rfl⟩ ?_ ?_
  · rintro dn x rest ρ σ' he ⟨rfl, hd, rfl⟩
    refine v_cmp (notin_d σ' rfl hU.len' x.1) ?_
    refine pick.mk (fun e => ?_) fun e => ?_
    · have e := not_t e
      rw [fd_has] at e
      exact pick.t (at_.isa ▸ isa_no) ((left_x ..).trans (congrArg (outX · σ') (sc_no he e).symm))
    · have e := not_f e
      rw [fd_has] at e
      have hx := hm.2 x (he ▸ List.mem_append_right _ List.mem_cons_self)
      have hb := pr_pb hU hm he
      have hu := up_pb (hU.at x.1) hx
      have r2 := run_product (hb.lw.bd (by decide)) (hu.bd (by decide)) (d + 2) σ' (Int.ne_of_gt hb.lw.p2) (Int.ne_of_gt hu.p2)
      rw [lw_mul hb.p2 hu.p2] at r2
      refine v_get (get_dct σ' _ (uG_get e)) ?_
      refine call_ at_ (run_raised (hU.at x.1) hx d σ') (call_ at_ r2 ?_)
      refine ⟨.ini 5 [some (mv m), some (.dct (fd U)), some (fv (lw (pr U (dn ++ [x])).1 (pr U (dn ++ [x])).2))], ?_, rfl, all_snoc hd e, rfl⟩
      rw [pr_snoc]; rfl
  · rintro ρ σ' ⟨rfl, hd, rfl⟩
    rw [sc_ok hd]
    exact left_p rfl
theorem up_xy (σ : AH) {p : Int × Int} (h : Un p) (n : Int) : ∃ x y : Int, up p n = (x ^ n.natAbs, y ^ n.natAbs) ∧ PB 14 (x, y) ∧ getAt σ (fv p) (.int (if decide (n < 0) then 1 else 0)) = some (.v (.int x)) ∧ getAt σ (fv p) (.int (if decide (n > 0) then 1 else 0)) = some (.v (.int y)) := by
  rcases Int.lt_trichotomy n 0 with q | q | q
  · refine ⟨p.2, p.1, if_pos q, h.pb.swap, ?_, ?_⟩
    · rw [decide_eq_true q]; rfl
    · rw [decide_eq_false (show ¬ n > 0 by exact om710 q)]; rfl
  · subst q
    exact ⟨p.1, p.1, by simp [up], ⟨h.pos, h.pos, h.fr.up, h.fr.up⟩, rfl, rfl⟩
  · refine ⟨p.1, p.2, if_neg (show ¬ n < 0 by exact om709 q), h.pb, ?_, ?_⟩
    · rw [decide_eq_false (show ¬ n < 0 by exact om709 q)]; rfl
    · rw [decide_eq_true (show n > 0 from q)]; rfl
theorem run_lscale {U : FI} (hU : UOk U) {m : DI} (hm : SM m) {i : Nat} {b : Bool} {σ : AH} (hi : σ[i]? = some (.dict b (fd U))) (d : Nat) : callD G (d + 3) "_law_scale" [mv m, .ref i] σ = .ok (outN (sc U m)) σ := by
  refine run_of fn_lscale rfl rfl rfl fun c at_ => ?_
  refine vFor.listI mel m (fun dn ρ σ' => σ' = σ ∧ (∀ kv ∈ dn, dhas U kv.1 = true) ∧ ρ = .ini 7 [some (mv m), some (.ref i), some (.int (pr U dn).1), some (.int (pr U dn).2)]) (fun dn ρ σ' ⟨_, _, e⟩ => e ▸ okE_l rfl) rfl ⟨.ini 7 [some (mv m), some (.ref i), some (.int (pr U []).1), some (.int (pr U []).2)], rfl, rfl, (fun _ q => nomatch q), rfl⟩ ?_ ?_
  · rintro dn x rest ρ σ' he ⟨rfl, hd, rfl⟩
    refine v_cmp (notin_d σ' (deref_d hi) hU.len' x.1) ?_
    refine pick.mk (fun e => ?_) fun e => ?_
    · have e := not_t e
      rw [fd_has] at e
      rw [sc_no he e]
      exact left_p rfl
    · have e := not_f e
      rw [fd_has] at e
      have hx := hm.2 x (he ▸ List.mem_append_right _ List.mem_cons_self)
      have hb := pr_pb hU hm he
      have hg := get_dP hi (uG_get e)
      obtain ⟨y, z, e1, hyz, gy, gz⟩ := up_xy σ' (hU.at x.1) x.2
      refine v_bi (range_0 _ (show ((x.2.natAbs : Nat) : Int).natAbs ≤ 1000000 by exact om708 hx)) ?_
      refine vFor.inv (fun k ρ σ'' => σ'' = σ' ∧ ρ = .ini 7 [some (mv m), some (.ref i), some (.int ((pr U dn).1 * y ^ k)), some (.int ((pr U dn).2 * z ^ k)), some (.str x.1), some (.int x.2)]) (fun k ρ σ' ⟨_, e⟩ => e ▸ okE_l rfl) ⟨.ini 7 [some (mv m), some (.ref i), some (.int ((pr U dn).1 * y ^ 0)), some (.int ((pr U dn).2 * z ^ 0)), some (.str x.1), some (.int x.2)], ?_, rfl, rfl⟩ ?_ ?_
      · rw [Int.pow_zero, Int.pow_zero, Int.mul_one, Int.mul_one]; rfl
      · rintro k w ρ σ'' hw ⟨rfl, rfl⟩
        obtain ⟨rfl, hk⟩ := rng_get (n := x.2.natAbs) hw
        have hk20 : k ≤ 20 := by exact om707 hx hk
        have hq := hb.mul (hyz.pow hk20)
        refine v_get hg (v_get gy (v_mul (mulOk (hq.bd (by decide)).up (hyz.bd (by decide)).up) ?_))
        refine v_get hg (v_get gz (v_mul (mulOk (hq.bd (by decide)).dn (hyz.bd (by decide)).dn) ?_))
        refine ⟨.ini 7 [some (mv m), some (.ref i), some (.int ((pr U dn).1 * y ^ (k + 1))), some (.int ((pr U dn).2 * z ^ (k + 1))), some (.str x.1), some (.int x.2)], ?_, rfl, rfl⟩
        rw [Int.pow_succ, Int.pow_succ, ← Int.mul_assoc, ← Int.mul_assoc]; rfl
      · rintro ρ σ'' ⟨rfl, rfl⟩
        rw [rng_len]
        refine ⟨.ini 7 [some (mv m), some (.ref i), some (.int (pr U (dn ++ [x])).1), some (.int (pr U (dn ++ [x])).2)], ?_, rfl, all_snoc hd e, rfl⟩
        rw [pr_snoc]
        unfold stp
        rw [e1]; rfl
  · rintro ρ σ' ⟨rfl, hd, rfl⟩
    have hb := pr_pb hU hm (List.append_nil m)
    rw [sc_ok hd]
    exact call_ at_ (run_lowest _ (Int.ne_of_gt hb.p2) d σ') (left_p rfl)
end Mine

set_option autoImplicit false
set_option maxRecDepth 100000
set_option linter.unusedVariables false
set_option linter.unusedSimpArgs false
set_option exponentiation.threshold 2000
namespace Mine
open PySem
theorem vCompX.opt {α : Type} {c : Cx} {cond elt : PE} {m : Nat} {t : Tgt} {l : List PV} {v : PV} {ρ : Nv} {σ : AH} {K : PV → AH → Prop} {X : KX} (el : α → PV) (g : α → Option PV) (xs : List α) (k : Str) (hl : l = xs.map el) (hlk : lockV σ v true = σ) (hlu : lockV σ v (lkV σ v) = σ)
    (hb : ∀ x ∈ xs, onO (bindO t (el x) (killO (tgtSlots t) ρ)) fun ρ1 => (vE c cond 0 ρ1 σ fun b σ1 => σ1 = σ ∧ b = .bool true) ∧ vEX c elt (fun y σ1 => g x = none ∧ y = k ∧ σ1 = σ) m.pred ρ1 σ fun v σ1 => σ1 = σ ∧ g x = some v)
    (hsm : small xs.length = true) (h0 : xs.mapM g = none → X k σ) (h1 : ∀ vs, xs.mapM g = some vs → onR (box m (.list vs) σ) K) : vCompX c cond elt m t l v ρ σ K X := by
  intro he
  rw [hl, hlk, ← den_kill, compL_opt he.kill el g xs hb]
  refine ⟨by rw [List.length_map]; exact hsm, ?_⟩
  cases q : xs.mapM g with
  | none =>
    show X k (lockV σ v (lkV σ v))
    rw [hlu]; exact h0 q
  | some vs =>
    show onR (box m (.list vs) (lockV σ v (lkV σ v))) K
    rw [hlu]; exact h1 vs q
theorem mapM_none {α : Type} {g : α → Option PV} : ∀ {xs : List α}, xs.mapM g = none → ∃ x ∈ xs, g x = none
  | [], h => nomatch h
  | x :: xs, h => by
    rw [List.mapM_cons] at h
    cases e : g x with
    | none => exact ⟨x, List.mem_cons_self, e⟩
    | some v =>
      rw [e] at h
      cases e2 : xs.mapM g with
      | none => obtain ⟨y, hy, q⟩ := mapM_none e2; exact ⟨y, List.mem_cons_of_mem _ hy, q⟩
      | some vs => rw [e2] at h; cases h
theorem mapM_some {α : Type} {g : α → Option PV} : ∀ {xs : List α} {vs : List PV}, xs.mapM g = some vs → (xs.map fun x => (g x).getD .none) = vs ∧ ∀ x ∈ xs, (g x).isSome = true
  | [], vs, h => by cases h; exact ⟨rfl, fun _ q => nomatch q⟩
  | x :: xs, vs, h => by
    rw [List.mapM_cons] at h
    cases e : g x with
    | none => rw [e] at h; cases h
    | some v =>
      rw [e] at h
      cases e2 : xs.mapM g with
      | none => rw [e2] at h; cases h
      | some us =>
        rw [e2] at h; cases h
        obtain ⟨h1, h2⟩ := mapM_some e2
        refine ⟨by rw [List.map_cons, h1, e]; rfl, fun y hy => ?_⟩
        rcases List.mem_cons.mp hy with q | q
        · rw [q, e]; rfl
        · exact h2 y q
noncomputable def pOf : PV → Int × Int
  | .tup [.int a, .int b] => (a, b)
  | _ => (0, 1)
noncomputable def T.tl : T → List PV
  | .inp w => [.str w] | .nou => [] | .is _ _ => [] | .bin _ _ _ => [] | .pow _ n => [.int n] | .less _ _ _ _ => []
noncomputable def RT (U : FI) : T → Option PV
  | .inp w => some (.tup [.str "input", .str w])
  | .nou => some (.tup [.str "nought"])
  | .is n m => (sc U m).map fun r => .tup [.str "is", fv (lw ((pOf n).1 * r.1) ((pOf n).2 * r.2)), mv m]
  | .bin o a b => (RT U a).bind fun x => (RT U b).map fun y => .tup [.str o.word, x, y]
  | .pow a n => (RT U a).map fun x => .tup [.str "power", x, .int n]
  | .less a b c d => (RT U a).bind fun x => (RT U b).bind fun y => (RT U c).bind fun z => (RT U d).map fun u => .tup [.str "less", x, y, z, u]
theorem RT_kids (U : FI) {t : T} (h : (t.k == 0) = false) : RT U t = (t.kids.mapM (RT U)).map fun vs => .tup (.str t.word :: (vs ++ t.tl)) := by
  cases t with
  | is n m => cases h
  | inp w => rfl
  | nou => rfl
  | pow a n =>
    show _ = (List.mapM (RT U) [a]).map _
    rw [List.mapM_cons, List.mapM_nil]
    show (RT U a).map _ = _
    cases RT U a <;> rfl
  | bin o a b =>
    show _ = (List.mapM (RT U) [a, b]).map _
    rw [List.mapM_cons, List.mapM_cons, List.mapM_nil]
    show (RT U a).bind _ = _
    cases RT U a with
    | none => rfl
    | some x => show (RT U b).map _ = _; cases RT U b <;> rfl
  | less a b c d =>
    show _ = (List.mapM (RT U) [a, b, c, d]).map _
    rw [List.mapM_cons, List.mapM_cons, List.mapM_cons, List.mapM_cons, List.mapM_nil]
    show (RT U a).bind _ = _
    cases RT U a with
    | none => rfl
    | some x =>
      show (RT U b).bind _ = _
      cases RT U b with
      | none => rfl
      | some y =>
        show (RT U c).bind _ = _
        cases RT U c with
        | none => rfl
        | some z => show (RT U d).map _ = _; cases RT U d <;> rfl
noncomputable def outP (o : Option PV) (σ : AH) : Res PV := match o with
  | some v => .ok v σ
  | none => .exc "NoValue" σ
theorem on_outP {o : Option PV} {σ : AH} {K : PV → AH → Prop} {X : Str → AH → Prop} (h0 : o = none → X "NoValue" σ) (h1 : ∀ r, o = some r → K r σ) : @Res.rec PV (fun _ => Prop) K X False (outP o σ) := by
  cases o with
  | none => exact h0 rfl
  | some r => exact h1 r rfl
theorem on_outX {o : Option (Int × Int)} {σ : AH} {K : PV → AH → Prop} {X : Str → AH → Prop} (h0 : o = none → X "NoValue" σ) (h1 : ∀ r, o = some r → K (fv r) σ) : @Res.rec PV (fun _ => Prop) K X False (outX o σ) := by
  cases o with
  | none => exact h0 rfl
  | some r => exact h1 r rfl
theorem callN {d : Nat} {c : Cx} {f : Str} {vs : List PV} {σ : AH} {o : Option (Int × Int)} {K : PV → AH → Prop} {X : Str → AH → Prop} (a : At G d c) (h : callD G d f vs σ = .ok (outN o) σ) (h0 : o = none → K .none σ) (h1 : ∀ r, o = some r → K (fv r) σ) : @Res.rec PV (fun _ => Prop) K X False (c.cal f vs σ) := by
  refine call_ a h ?_
  cases o with
  | none => exact h0 rfl
  | some r => exact h1 r rfl
theorem sc_pb {U : FI} (hU : UOk U) {m : DI} (hm : SM m) {r : Int × Int} (h : sc U m = some r) : PB 1000 r := by
  unfold sc at h
  split at h
  · cases h; exact (pr_pb hU hm (List.append_nil m)).lw
  · cases h
theorem Fr.bd {p : Int × Int} (hp : Fr 40 p) : Bd p := by
  have h : (2 : Nat) ^ 40 ≤ 2 ^ 100000 := Nat.pow_le_pow_right (by decide) (by decide)
  exact ⟨Nat.lt_of_lt_of_le hp.up h, Nat.lt_of_lt_of_le hp.dn h⟩
theorem add_tt (σ : AH) {x y : List PV} (h : x.length + y.length ≤ 1000000) : binop σ .Add (.tup x) (.tup y) = some (.v (.tup (x ++ y))) := if_pos h
theorem cutF_drop (σ : AH) {l : List PV} (k : Nat) (h : 1 ≤ k) (hk : k ≤ 1000) (h1 : 1 ≤ l.length) (h2 : l.length ≤ 1000) : cutF σ (.tup l) (.int k) = some (.v (.tup (l.drop k))) := by
  have e : natOf (.int k) = some k := if_pos ⟨Int.natCast_nonneg _, by exact om717 hk⟩
  show (natOf (.int k)).bind _ = _
  rw [e]
  show (if small l.length && decide (1 ≤ k) && decide (1 ≤ l.length) then some (Out.v (.tup ((l.take 1000000).drop k))) else none) = _
  rw [List.take_of_length_le (by exact om4 h2), show small l.length = true from decide_eq_true (by exact om4 h2), decide_eq_true h, decide_eq_true h1]; rfl
theorem cut_tl (σ : AH) {t : T} (h : (t.k == 0) = false) : cutF σ (tv t) (.int (1 + (t.kids.length : Int))) = some (.v (.tup t.tl)) := by
  cases t with
  | is n m => cases h
  | inp w => exact cutF_tail σ _ [_] (by simp)
  | nou => exact cutF_tail σ _ [] (by simp)
  | pow a n => exact cutF_drop σ 2 (by decide) (by decide) (Nat.le_of_ble_eq_true rfl) (Nat.le_of_ble_eq_true rfl)
  | bin o a b => exact cutF_drop σ 3 (by decide) (by decide) (Nat.le_of_ble_eq_true rfl) (Nat.le_of_ble_eq_true rfl)
  | less a b c d => exact cutF_drop σ 5 (by decide) (by decide) (Nat.le_of_ble_eq_true rfl) (Nat.le_of_ble_eq_true rfl)
theorem tl_len (t : T) : t.tl.length ≤ 1 := by cases t <;> simp [T.tl]
theorem ok_kids {t : T} (h : t.ok) : ∀ x ∈ t.kids, x.ok := by
  cases t with
  | bin o a b => intro x hx; simp [T.kids] at hx; rcases hx with rfl | rfl; exact h.1; exact h.2
  | pow a n => intro x hx; simp [T.kids] at hx; subst hx; exact h
  | less a b c d => intro x hx; simp [T.kids] at hx; rcases hx with rfl | rfl | rfl | rfl; exact h.1; exact h.2.1; exact h.2.2.1; exact h.2.2.2
  | _ => intro x hx; cases hx
theorem k_is {t : T} (h : (t.k == 0) = true) : ∃ n m, t = .is n m := by
  rcases t with _ | _ | _ | ⟨⟨⟩, _, _⟩ | _ | _ <;> first | exact ⟨_, _, rfl⟩ | cases h
theorem tl_plain (t : T) : ∀ v ∈ t.tl, pureV v = true ∧ deep v ≤ 0 := by
  cases t <;> intro v hv <;> simp [T.tl] at hv <;> (subst hv; exact ⟨rfl, Nat.le_refl _⟩)
theorem RT_ok (U : FI) (t : T) : ∀ v, RT U t = some v → pureV v = true ∧ deep v ≤ t.ht + 2 ∧ isN v = false ∧ isU v = false := by
  induction t using T.byKids with | _ t ih => ?_
  intro v hv
  by_cases h : (t.k == 0) = true
  · obtain ⟨n, m, rfl⟩ := k_is h
    obtain ⟨r, _, rfl⟩ := Option.map_eq_some_iff.mp (show (sc U m).map _ = some v from hv)
    refine ⟨?_, ?_, rfl, rfl⟩
    · show (true && (true && (pureV (mv m) && true))) = true
      rw [mv_pure]; rfl
    · refine Nat.succ_le_succ (deeps_le fun w hw => ?_)
      rcases List.mem_cons.mp hw with q | hw
      · rw [q]; exact Nat.zero_le _
      · rcases List.mem_cons.mp hw with q | hw
        · rw [q]; exact Nat.le_succ 1
        · rw [List.mem_singleton.mp hw]; exact mv_deep m
  · have h : (t.k == 0) = false := Bool.eq_false_iff.mpr h
    rw [RT_kids U h] at hv
    obtain ⟨vs, e, rfl⟩ := Option.map_eq_some_iff.mp hv
    obtain ⟨e1, e2⟩ := mapM_some e
    have H : ∀ w ∈ PV.str t.word :: (vs ++ t.tl), pureV w = true ∧ deep w ≤ t.ht + 1 := fun w hw => by
      rcases List.mem_cons.mp hw with q | hw
      · rw [q]; exact ⟨rfl, Nat.zero_le _⟩
      · rcases List.mem_append.mp hw with q | q
        · rw [← e1] at q
          obtain ⟨x, hx, rfl⟩ := List.mem_map.mp q
          obtain ⟨u, hu⟩ := Option.isSome_iff_exists.mp (e2 x hx)
          have := ih x hx u hu
          have := kids_ht hx
          rw [hu]
          show pureV u = true ∧ deep u ≤ _
          exact ⟨by assumption |> And.left, by omega⟩
        · exact ⟨(tl_plain t w q).1, Nat.le_trans (tl_plain t w q).2 (Nat.zero_le _)⟩
    exact ⟨pureVs_iff.mpr fun w hw => (H w hw).1, Nat.succ_le_succ (deeps_le fun w hw => (H w hw).2), rfl, rfl⟩
theorem len_map {vs : List PV} {t : T} {g : T → Option PV} (h : t.kids.mapM g = some vs) : vs.length = t.kids.length := by rw [← (mapM_some h).1, List.length_map]
theorem u_re (t : T) {v : PV} (h : isU v = false) : uAll [tv t, v] = true := uAll_cons (isU_tv t) (uAll_cons h rfl)
theorem run_retold {U : FI} (hU : UOk U) (σ : AH) (t : T) : t.ok → ∀ n, t.ht ≤ n → callD G (n + 6) "retold" [tv t, .dct (fd U)] σ = outP (RT U t) σ := by
  induction t using T.byKids with | _ t ih => ?_
  intro hok n hn
  obtain ⟨n, rfl⟩ : ∃ k, n = k + 1 := ⟨n - 1, by have := ht_pos t; exact om49 hn this⟩
  by_cases hk : (t.k == 0) = true
  · obtain ⟨nn, m, rfl⟩ := k_is hk
    obtain ⟨p, rfl, hp, hm⟩ := (show ∃ p, nn = fv p ∧ Fr 40 p ∧ SM m from hok)
    refine run_of fn_retold rfl rfl rfl fun c at_ => ?_
    refine callX at_ (run_scale hU hm n σ) (on_outX (fun e => ?_) fun r e => ?_)
    · refine pick.t (by rw [at_.atr]; rfl) ((left_x ..).trans ?_)
      rw [show RT U (.is (fv p) m) = none by show (sc U m).map _ = _; rw [e]; rfl]; rfl
    · have hr := sc_pb hU hm e
      have r2 := run_product hp.bd (hr.bd (by decide)) (n + 3) σ hp.ne (Int.ne_of_gt hr.p2)
      have e2 : RT U (.is (fv p) m) = some (.tup [.str "is", fv (lw (p.1 * r.1) (p.2 * r.2)), mv m]) := by show (sc U m).map _ = _; rw [e]; rfl
      refine call_ at_ r2 ?_
      rw [e2]
      exact left_p (RT_ok U _ _ e2).1
  · have hk : (t.k == 0) = false := Bool.eq_false_iff.mpr hk
    refine run_of fn_retold rfl rfl (u_re t rfl) fun c at_ => ?_
    refine v_get (get0 σ t) ?_
    refine pick.f ((w_is t).trans hk) ?_
    refine call_ at_ (run_parts (ok_pure hok) (n + 5) σ) ?_
    refine vCompX.opt tv (RT U) t.kids "NoValue" rfl rfl rfl (fun x hx => ?_) (decide_eq_true (Nat.le_trans (kids_len t) (by decide))) (fun e => ?_) fun vs e => ?_
    · refine v_upd (isU_tv x) rfl ⟨⟨rfl, rfl⟩, ?_⟩
      exact callX at_ (ih x hx (ok_kids hok x hx) n (by have := kids_ht hx; exact om47 hn this)) (on_outP (fun e => ⟨e, rfl, rfl⟩) fun r e => ⟨rfl, e⟩)
    · refine (left_x ..).trans ?_
      rw [RT_kids U hk, e]; rfl
    · have hl := len_map e
      have hk4 := kids_len t
      have e2 : RT U t = some (.tup (.str t.word :: (vs ++ t.tl))) := by rw [RT_kids U hk, e]; rfl
      have ht := tl_len t
      refine v_get (get0 σ t) ?_
      refine v_bi (tuple_lst (by exact om715 hl hk4)) ?_
      refine v_bin (add_tt σ (by simp only [List.length_cons, List.length_nil]; exact om716 hl hk4)) ?_
      refine v_bi (len_lst σ vs (by exact om715 hl hk4)) ?_
      refine v_cutF (show cutF σ (tv t) (.int (1 + (vs.length : Int))) = _ by rw [hl]; exact cut_tl σ hk) ?_
      refine v_bin (add_tt σ (by simp only [List.length_append, List.length_cons, List.length_nil]; exact om714 hl hk4 ht)) ?_
      rw [e2]
      exact left_p (RT_ok U _ _ e2).1
end Mine

set_option autoImplicit false
set_option maxRecDepth 100000
set_option linter.unusedVariables false
set_option linter.unusedSimpArgs false
set_option exponentiation.threshold 2000
namespace Mine
open PySem
noncomputable def outV (o : Option PV) : PV := o.getD .none
theorem outV_ok (U : FI) (t : T) : pureV (outV (RT U t)) = true ∧ deep (outV (RT U t)) ≤ t.ht + 2 ∧ isU (outV (RT U t)) = false := by
  cases e : RT U t with
  | none => exact ⟨rfl, Nat.zero_le _, rfl⟩
  | some v => have := RT_ok U t v e; exact ⟨this.1, this.2.1, this.2.2.2⟩
theorem in_tup {σ : AH} {l : List PV} (h : pureVs l = true) (h1 : l.length ≤ 1000000) (h2 : deeps l ≤ 200) : cmpP σ .In .none (.tup l) = some (l.any isN) := by
  show (if pureVs l && small l.length && decide (deeps l ≤ 200) then some (l.any isN) else none) = _
  rw [h, show small l.length = true from decide_eq_true h1, decide_eq_true h2]; rfl
theorem cut_hd (σ : AH) {t : T} (h0 : (t.k == 0) = false) (h1 : (t.k == 1) = false) (h2 : (t.k == 2) = false) : cutT σ (tv t) (.int 1) = some (.v (.tup [.str t.word])) := by
  rcases t with _ | _ | _ | ⟨o, a, b⟩ | _ | ⟨a, b, c, d⟩ 
  · cases h1
  · cases h2
  · cases h0
  · rfl
  · rfl
  · rfl
theorem w_nou (t : T) : (t.word == "nought") = (t.k == 2) := by rcases t with _ | _ | _ | ⟨⟨⟩, _, _⟩ | _ | _ <;> rfl
theorem RT_leaf (U : FI) {t : T} (h0 : (t.k == 0) = false) (h : t.kids = []) : RT U t = some (tv t) := by
  rcases t with _ | _ | _ | ⟨o, a, b⟩ | _ | ⟨a, b, c, d⟩ 
  · rfl
  · rfl
  · cases h0
  · cases h
  · cases h
  · cases h
theorem k12 {t : T} (h : (t.k == 1) = true ∨ (t.k == 2) = true) : t.kids = [] := by
  rcases t with _ | _ | _ | ⟨⟨⟩, _, _⟩ | _ | _ <;> first | rfl | (rcases h with h | h <;> cases h)
theorem run_lretold {U : FI} (hU : UOk U) {i : Nat} {b : Bool} {σ : AH} (hi : σ[i]? = some (.dict b (fd U))) (t : T) : t.ok → ∀ n, t.ht ≤ n → n ≤ 100 → callD G (n + 3) "_law_retold" [tv t, .ref i] σ = .ok (outV (RT U t)) σ := by
  induction t using T.byKids with | _ t ih => ?_
  intro hok n hn hn1
  obtain ⟨n, rfl⟩ : ∃ k, n = k + 1 := ⟨n - 1, by have := ht_pos t; exact om49 hn this⟩
  by_cases hk : (t.k == 0) = true
  · obtain ⟨nn, m, rfl⟩ := k_is hk
    obtain ⟨p, rfl, hp, hm⟩ := (show ∃ p, nn = fv p ∧ Fr 40 p ∧ SM m from hok)
    refine run_of fn_lretold rfl rfl rfl fun c at_ => ?_
    refine callN at_ (run_lscale hU hm hi n) (fun e => ?_) fun r e => ?_
    · rw [show RT U (.is (fv p) m) = none by show (sc U m).map _ = _; rw [e]; rfl]
      exact left_p rfl
    · have hr := sc_pb hU hm e
      have e2 : RT U (.is (fv p) m) = some (.tup [.str "is", fv (lw (p.1 * r.1) (p.2 * r.2)), mv m]) := by show (sc U m).map _ = _; rw [e]; rfl
      refine v_mul (mulOk hp.bd.up (hr.bd (by decide)).up) (v_mul (mulOk hp.bd.dn (hr.bd (by decide)).dn) ?_)
      refine call_ at_ (run_lowest _ (Int.mul_ne_zero hp.ne (Int.ne_of_gt hr.p2)) (n + 1) σ) ?_
      rw [e2]
      exact left_p (RT_ok U _ _ e2).1
  · have hk : (t.k == 0) = false := Bool.eq_false_iff.mpr hk
    refine run_of fn_lretold rfl rfl (u_re t rfl) fun c at_ => ?_
    refine v_get (get0 σ t) ?_
    refine pick.f ((w_is t).trans hk) ?_
    refine v_get (get0 σ t) ?_
    have hT : pureV (tv t) = true := tv_pure (ok_pure hok)
    have hV := outV_ok U t
    refine pick.mk (fun e => ?_) fun e1 => ?_
    · have e := (w_inp t).symm.trans e
      refine pick.t ((w_inp t).trans e) ?_
      rw [RT_leaf U hk (k12 (.inl e))]
      exact left_p hT
    refine v_get (get0 σ t) ?_
    refine pick.mk (fun e => ?_) fun e2 => ?_
    · have e := (w_nou t).symm.trans e
      rw [RT_leaf U hk (k12 (.inr e))]
      exact left_p hT
    refine call_ at_ (run_lparts (ok_pure hok) (n + 2) σ) ?_
    refine vComp.pure tv (fun _ => true) (fun x => outV (RT U x)) t.kids rfl rfl rfl (fun x hx => ?_) (decide_eq_true (Nat.le_trans (kids_len t) (by decide))) ?_
    · refine v_upd (isU_tv x) rfl ⟨⟨rfl, rfl⟩, fun _ => ?_⟩
      exact call_ at_ (ih x hx (ok_kids hok x hx) n (by have := kids_ht hx; exact om47 hn this) (by exact om724 hn1)) ⟨rfl, rfl⟩
    rw [List.filter_eq_self.mpr fun _ _ => rfl]
    have hk4 := kids_len t
    have hl : (t.kids.map fun x => outV (RT U x)).length = t.kids.length := List.length_map ..
    refine v_bi (tuple_lst (by exact om721 hk4 hl)) ?_
    have hp : pureVs (t.kids.map fun x => outV (RT U x)) = true := pureVs_map fun x _ => (outV_ok U x).1
    have hd : deeps (t.kids.map fun x => outV (RT U x)) ≤ 200 := deeps_le fun v hv => by
      obtain ⟨x, hx, rfl⟩ := List.mem_map.mp hv
      have := (outV_ok U x).2.1
      have := kids_ht hx
      exact om723 hn hn1 (by assumption) this
    refine v_cmp (in_tup hp (by exact om721 hk4 hl) hd) ?_
    cases e : t.kids.mapM (RT U) with
    | none =>
      obtain ⟨x, hx, q⟩ := mapM_none e
      refine pick.t (List.any_eq_true.mpr ⟨_, List.mem_map.mpr ⟨x, hx, rfl⟩, by rw [q]; rfl⟩) ?_
      rw [RT_kids U hk, e]
      exact left_p rfl
    | some vs =>
      obtain ⟨q1, q2⟩ := mapM_some e
      have hN : (t.kids.map fun x => outV (RT U x)).any isN = false := List.any_eq_false.mpr fun v hv => by
        obtain ⟨x, hx, rfl⟩ := List.mem_map.mp hv
        obtain ⟨u, hu⟩ := Option.isSome_iff_exists.mp (q2 x hx)
        rw [hu]
        show ¬ isN u = true
        rw [(RT_ok U x u hu).2.2.1]; exact Bool.false_ne_true
      refine pick.f hN ?_
      have q1 : (t.kids.map fun x => outV (RT U x)) = vs := q1
      rw [q1] at hl ⊢
      have e3 : RT U t = some (.tup (.str t.word :: (vs ++ t.tl))) := by rw [RT_kids U hk, e]; rfl
      have ht := tl_len t
      refine v_cutT (cut_hd σ hk ((w_inp t).symm.trans e1) ((w_nou t).symm.trans e2)) ?_
      refine v_bin (add_tt σ (by simp only [List.length_cons, List.length_nil]; exact om722 hk4 hl)) ?_
      refine v_bi (show biP σ .len [.tup vs] = some (.v (.int (vs.length : Int))) from if_pos (decide_eq_true (by exact om721 hk4 hl))) ?_
      refine v_cutF (show cutF σ (tv t) (.int (1 + (vs.length : Int))) = _ by rw [hl]; exact cut_tl σ hk) ?_
      refine v_bin (add_tt σ (by simp only [List.length_append, List.length_cons, List.length_nil]; exact om720 hk4 hl ht)) ?_
      rw [e3]
      exact left_p (RT_ok U _ _ e3).1
noncomputable abbrev MI := List (Str × DI)
noncomputable def nd (N : MI) : List (Str × PV) := N.map fun kv => (kv.1, mv kv.2)
theorem nd_len (L : MI) : (nd L).length = L.length := List.length_map ..
theorem nd_put (L : MI) (k : Str) (p : DI) : dput (nd L) k (mv p) = nd (dput L k p) := by
  unfold dput nd
  simp only [List.any_map, Function.comp_def, List.map_map]
  split
  · rw [List.map_map]
    apply List.map_congr_left
    intro kv _
    simp only [Function.comp]
    split <;> rfl
  · simp
theorem nd_get (L : MI) (k : Str) : dget (nd L) k = (dget L k).map mv := by
  unfold dget nd
  rw [List.find?_map]
  simp only [Function.comp_def, Option.map_map]
theorem nd_del (L : MI) (k : Str) : ddel (nd L) k = nd (ddel L k) := by
  unfold ddel nd
  rw [List.filter_map]; rfl
structure NOk (N : MI) : Prop where
  sm : ∀ kv ∈ N, SM kv.2
  nd : (N.map (·.1)).Nodup
  len : N.length ≤ 4
structure VOk (V : FI) : Prop where
  fr : ∀ kv ∈ V, Fr 40 kv.2
  nd : (V.map (·.1)).Nodup
  len : V.length ≤ 4
noncomputable def mG (N : MI) (w : Str) : DI := (dget N w).getD []
noncomputable def vG (V : FI) (w : Str) : Int × Int := (dget V w).getD (0, 1)
theorem NOk.at {N : MI} (h : NOk N) (w : Str) : SM (mG N w) := by
  unfold mG
  cases q : dget N w with
  | none => exact ⟨Nat.zero_le _, fun _ q => nomatch q⟩
  | some p => exact h.sm _ (mem_of_dget q)
theorem VOk.at {V : FI} (h : VOk V) (w : Str) : Fr 40 (vG V w) := by
  unfold vG
  cases q : dget V w with
  | none => exact nought_fr
  | some p => exact h.fr _ (mem_of_dget q)
theorem mG_get {N : MI} {w : Str} (h : w ∈ N.map (·.1)) : dget (nd N) w = some (mv (mG N w)) := by
  obtain ⟨p, hp⟩ := dget_some h
  unfold mG
  rw [nd_get, hp]; rfl
theorem vG_get {V : FI} {w : Str} (h : dhas V w = true) : dget (fd V) w = some (fv (vG V w)) := by
  obtain ⟨p, hp⟩ := dhas_get h
  unfold vG
  rw [fd_get, hp]; rfl
theorem VOk.len' {V : FI} (h : VOk V) : (fd V).length ≤ 1000000 := by rw [fd_len]; exact Nat.le_trans h.len (by decide)
noncomputable def o1 (V : FI) (N : MI) (U : FI) (w : Str) : Option (Int × Int) := if dhas V w then (sc U (mG N w)).map fun r => lw ((vG V w).1 * r.1) ((vG V w).2 * r.2) else none
noncomputable def rs (V : FI) (N : MI) (U : FI) (ks : List Str) : FI := ks.foldl (fun L w => dput L w ((o1 V N U w).getD (1, 1))) []
theorem rs_snoc (V : FI) (N : MI) (U : FI) (ks : List Str) (w : Str) : rs V N U (ks ++ [w]) = dput (rs V N U ks) w ((o1 V N U w).getD (1, 1)) := by unfold rs; rw [List.foldl_append]; rfl
theorem rs_len (V : FI) (N : MI) (U : FI) (ks : List Str) : (rs V N U ks).length ≤ ks.length := by
  have go : ∀ (ks : List Str) (L : FI), (ks.foldl (fun L w => dput L w ((o1 V N U w).getD (1, 1))) L).length ≤ L.length + ks.length := fun ks => by
    induction ks with
    | nil => exact fun L => Nat.le_refl _
    | cons w ks ih => exact fun L => Nat.le_trans (ih _) (by have h := dput_more L w ((o1 V N U w).getD (1, 1)); rw [List.length_cons]; exact Nat.le_trans (Nat.add_le_add_right h _) (by exact om719))
  exact Nat.le_trans (go ks []) (by rw [List.length_nil]; exact om134)
theorem rs_nodup (V : FI) (N : MI) (U : FI) (ks : List Str) : ((rs V N U ks).map (·.1)).Nodup := by
  have go : ∀ (ks : List Str) (L : FI), (L.map (·.1)).Nodup → ((ks.foldl (fun L w => dput L w ((o1 V N U w).getD (1, 1))) L).map (·.1)).Nodup := fun ks => by
    induction ks with
    | nil => exact fun L h => h
    | cons w ks ih => exact fun L h => ih _ (dput_nodup h)
  exact go ks [] List.nodup_nil
noncomputable def rsO (V : FI) (N : MI) (U : FI) (ks : List Str) : Option FI := if ks.all (fun w => (o1 V N U w).isSome) then some (rs V N U ks) else none
theorem rsO_no {V : FI} {N : MI} {U : FI} {ks d r : List Str} {w : Str} (e : d ++ w :: r = ks) (h : o1 V N U w = none) : rsO V N U ks = none := by
  have : ks.all (fun w => (o1 V N U w).isSome) = false := List.all_eq_false.mpr ⟨w, e ▸ List.mem_append_right _ List.mem_cons_self, by rw [h]; exact Bool.false_ne_true⟩
  unfold rsO; rw [this]; rfl
theorem rsO_ok {V : FI} {N : MI} {U : FI} {ks : List Str} (h : ∀ w ∈ ks, (o1 V N U w).isSome = true) : rsO V N U ks = some (rs V N U ks) := if_pos (List.all_eq_true.mpr h)
theorem frzWd_pure (d : Nat → Option PV) : ∀ (l : List (Str × PV)), (∀ kv ∈ l, pureV kv.2 = true) → frzWd d l = some l
  | [], _ => rfl
  | (k, v) :: l, h => by
    rw [frzWd_c, frzW_pure d v (h (k, v) List.mem_cons_self)]
    show (frzWd d l).map _ = _
    rw [frzWd_pure d l fun kv hkv => h kv (List.mem_cons_of_mem _ hkv)]; rfl
theorem fd_pure (L : FI) : ∀ kv ∈ fd L, pureV kv.2 = true := fun kv hkv => by
  obtain ⟨q, _, rfl⟩ := List.mem_map.mp hkv; rfl
theorem left_d {σ : AH} {D : List (Str × PV)} {ρ : List PV} (h : ∀ kv ∈ D, pureV kv.2 = true) : left false σ (.ok (.ret (.ref σ.length), ρ) (σ ++ [AObj.dict false D])) = .ok (.dct D) σ := by
  have e : frz σ.length (σ ++ [AObj.dict false D]) 3 (.ref σ.length) = some (.dct D) :=
    (if_neg (Nat.lt_irrefl _)).trans (by show frzO _ (σ ++ [AObj.dict false D])[σ.length]? = _; rw [get_snoc]; exact congrArg (Option.map PV.dct) (frzWd_pure _ _ h))
  rw [left_rf, List.take_left, if_pos rfl, e]
theorem left_dct {σ : AH} {D : List (Str × PV)} {ρ : List PV} (h : ∀ kv ∈ D, pureV kv.2 = true) : left false σ (.ok (.ret (.dct D), ρ) σ) = .ok (.dct D) σ := by
  have e : frz σ.length σ 3 (.dct D) = some (.dct D) := congrArg (Option.map PV.dct) (frzWd_pure _ _ h)
  rw [left_rf, List.take_length, if_pos rfl, e]
theorem left_xq {σ σ' : AH} (k : Str) : left false σ (.exc k (σ ++ σ')) = .exc k σ := by
  unfold left
  exact if_pos List.take_left
theorem run_rescaled {V : FI} {N : MI} {U : FI} (hV : VOk V) (hN : NOk N) (hU : UOk U) (d : Nat) (σ : AH) : callD G (d + 7) "rescaled" [.dct (fd V), .dct (nd N), .dct (fd U)] σ = outP ((rsO V N U (N.map (·.1))).map fun L => .dct (fd L)) σ := by
  refine run_of fn_rescaled rfl rfl rfl fun c at_ => ?_
  refine vFor.listI .str (N.map (·.1)) (fun dn ρ σ' => σ' = σ ++ [.dict false (fd (rs V N U dn))] ∧ (∀ w ∈ dn, (o1 V N U w).isSome = true) ∧ ρ = .ini 5 [some (.dct (fd V)), some (.dct (nd N)), some (.dct (fd U)), some (.ref σ.length)]) (fun dn ρ σ' ⟨_, _, e⟩ => e ▸ okE_l rfl) (by unfold nd; rw [List.map_map, List.map_map]; rfl) ⟨.ini 5 [some (.dct (fd V)), some (.dct (nd N)), some (.dct (fd U)), some (.ref σ.length)], rfl, rfl, (fun _ q => nomatch q), rfl⟩ ?_ ?_
  · rintro dn w rest ρ σ' he ⟨rfl, hd, rfl⟩
    have hw : w ∈ N.map (·.1) := he ▸ List.mem_append_right _ List.mem_cons_self
    refine v_cmp (notin_d _ rfl hV.len' w) ?_
    refine pick.mk (fun e => ?_) fun e => ?_
    · have e := not_t e
      rw [fd_has] at e
      have e1 : o1 V N U w = none := by unfold o1; rw [e]; rfl
      refine pick.t (at_.isa ▸ isa_no) ((left_xq ..).trans ?_)
      rw [rsO_no he e1]; rfl
    · have e := not_f e
      rw [fd_has] at e
      have e0 : o1 V N U w = (sc U (mG N w)).map fun r => lw ((vG V w).1 * r.1) ((vG V w).2 * r.2) := if_pos e
      have hm := hN.at w
      have hv := hV.at w
      refine v_get (get_dct _ _ (vG_get e)) ?_
      refine v_get (get_dct _ _ (mG_get hw)) ?_
      refine callX at_ (run_scale hU hm d _) (on_outX (fun e2 => ?_) fun r e2 => ?_)
      · refine pick.t (by rw [at_.atr]; rfl) ((left_xq ..).trans ?_)
        rw [e2] at e0
        rw [rsO_no he e0]; rfl
      · have hr := sc_pb hU hm e2
        rw [e2] at e0
        have hl : (fd (rs V N U dn)).length ≤ 1000000 := by
          rw [fd_len]
          have h1 := rs_len V N U dn
          have h2 := hN.len
          have h3 := congrArg List.length he
          rw [List.length_append, List.length_map, List.length_cons] at h3
          exact om718 h1 h2 h3
        refine call_ at_ (run_product hv.bd (hr.bd (by decide)) (d + 3) _ hv.ne (Int.ne_of_gt hr.p2)) ?_
        refine v_set (set_dP hl _ _) ?_
        refine ⟨.ini 5 [some (.dct (fd V)), some (.dct (nd N)), some (.dct (fd U)), some (.ref σ.length)], rfl, ?_, all_snoc hd (by rw [e0]; rfl), rfl⟩
        rw [rs_snoc, ← fd_put, e0]; rfl
  · rintro ρ σ' ⟨rfl, hd, rfl⟩
    rw [rsO_ok hd]
    exact left_d (fd_pure _)
theorem told_no : isT G.isa "NoValue" "MeasureError" = some true := by decide +kernel
theorem suite_no : hsuite G.isa "NoValue" ⟨"_law_good", [.isI "ValueError", .isI "NoValue", .notI "NoFit"], [.none, (.bool false)], [.notV, .isI "Unlike", .isI "ByNought"]⟩ = some .none := by rfl
theorem told_scale {U : FI} (hU : UOk U) {m : DI} (hm : SM m) (d : Nat) (σ : AH) : callD G (d + 7) "_law_told" [.str "scale", mv m, .dct (fd U), .none] σ = .ok (outN (sc U m)) σ := by
  refine run_of fn_told rfl rfl rfl fun c at_ => ?_
  refine callX at_ (run_scale hU hm d σ) (on_outX (fun e => ?_) fun r e => ?_)
  · rw [e]; exact hand_ at_ told_no suite_no (left_p rfl)
  · rw [e]; exact left_p rfl
theorem told_retold {U : FI} (hU : UOk U) {t : T} (ht : t.ok) {n : Nat} (hn : t.ht ≤ n) (σ : AH) : callD G (n + 7) "_law_told" [.str "retold", tv t, .dct (fd U), .none] σ = .ok (outV (RT U t)) σ := by
  refine run_of fn_told rfl rfl (uAll_cons rfl (uAll_cons (isU_tv t) rfl)) fun c at_ => ?_
  refine callX at_ (run_retold hU σ t ht n hn) (on_outP (fun e => ?_) fun r e => ?_)
  · rw [e]; exact hand_ at_ told_no suite_no (left_p rfl)
  · rw [e]; exact left_p (RT_ok U t r e).1
noncomputable def outD (o : Option FI) : PV := match o with
  | some L => .dct (fd L)
  | none => .none
theorem told_rescaled {V : FI} {N : MI} {U : FI} (hV : VOk V) (hN : NOk N) (hU : UOk U) (d : Nat) (σ : AH) : callD G (d + 8) "_law_told" [.str "rescaled", .dct (fd V), .dct (nd N), .dct (fd U)] σ = .ok (outD (rsO V N U (N.map (·.1)))) σ := by
  refine run_of fn_told rfl rfl rfl fun c at_ => ?_
  refine callX at_ (run_rescaled hV hN hU d σ) ?_
  generalize rsO V N U (N.map (·.1)) = o
  cases o with
  | none => exact hand_ at_ told_no suite_no (left_p rfl)
  | some L => exact left_dct (fd_pure L)
end Mine

set_option autoImplicit false
set_option maxRecDepth 100000
set_option linter.unusedVariables false
set_option linter.unusedSimpArgs false
set_option exponentiation.threshold 2000
namespace Mine
open PySem
theorem dep_pick (x : Int) : ∃ D : Int, D ≤ (3 : Nat) ∧ ∀ σ, getAt σ (.lst [.int 1, .int 2, .int 3, .int 3]) (.int (x.fmod 4)) = some (.v (.int D)) := by
  have := fmod_bd x (n := 4) (by decide)
  have h : x.fmod 4 = 0 ∨ x.fmod 4 = 1 ∨ x.fmod 4 = 2 ∨ x.fmod 4 = 3 := by exact om170 this
  rcases h with h | h | h | h <;> rw [h]
  · exact ⟨1, by decide, fun _ => rfl⟩
  · exact ⟨2, by decide, fun _ => rfl⟩
  · exact ⟨3, by decide, fun _ => rfl⟩
  · exact ⟨3, by decide, fun _ => rfl⟩
theorem add_ll (σ : AH) {x y : List PV} (h : x.length + y.length ≤ 1000000) : binop σ .Add (.lst x) (.lst y) = some (.f (.list (x ++ y))) := if_pos h
theorem UOk.put {U : FI} (h : ∀ kv ∈ U, Un kv.2) {k : Str} {p : Int × Int} (hp : Un p) : ∀ kv ∈ dput U k p, Un kv.2 := dput_all h hp
noncomputable def J1 (s : PV) (ws bs ls : List Str) (ρ : Nv) (σ : AH) : Prop := ∃ U : FI, UOk U ∧ (∀ l ∈ ls, l ∈ U.map (·.1)) ∧ σ = [.dict false (fd U)] ∧ ρ = .ini 14 [some s, some (.lst (ws.map .str)), some (.lst (bs.map .str)), some (.lst (ls.map .str)), some (.ref 0)]
section
variable {c : Cx} (at_ : At G 40 c) {ns : List Int} (h : ns.length ≤ 63)
include at_ h
theorem cAt (k : Nat) (hk : k ≤ 1000) (σ : AH) : callD G 40 "_law_cell_at" [.lst (ns.map .int), .int k] σ = .ok (.int (cellAt ns k)) σ := cell_at h k hk 39 σ
theorem cAt2 (a k : Nat) (hk : a + k ≤ 1000) (σ : AH) : callD G 40 "_law_cell_at" [.lst (ns.map .int), .int ((a : Int) + (k : Int))] σ = .ok (.int (cellAt ns (a + k))) σ := by
  have := cAt at_ h (a + k) hk σ
  rw [Int.natCast_add] at this; exact this
theorem lawA {X : Str → AH → Prop} : ∃ ws bs ls : List Str, ws.length = 4 ∧ bs.length = 3 ∧ ls.length = 5 ∧ vSs c (takeP 5 F_law.body) (.ini 14 [some (.lst (ns.map .int))]) [] (Cut (J1 (.lst (ns.map .int)) ws bs ls)) X := by
  have c0 := cAt at_ h 0 (by decide) []
  have c1 := cAt at_ h 1 (by decide) []
  obtain ⟨ws, hw1, hw2, hw3⟩ := run_words (cellAt ns 0) 4 (by decide) 39 []
  obtain ⟨kb, hkb⟩ : ∃ kb : Int, callD G 40 "_law_cell_at" [.lst (ns.map .int), .int (if decide ((cellAt ns 1).fmod 3 > 0) then 1 else 0)] [] = .ok (.int kb) [] := by
    cases decide ((cellAt ns 1).fmod 3 > 0) with
    | true => exact ⟨_, c1⟩
    | false => exact ⟨_, c0⟩
  obtain ⟨bs, hb1, hb2, hb3⟩ := run_words kb 3 (by decide) 39 []
  obtain ⟨w0, hw0, hg0⟩ : ∃ w0, w0 ∈ ws ∧ getAt [] (.lst (ws.map .str)) (.int 0) = some (.v (.str w0)) := by
    cases ws with
    | nil => cases hw1
    | cons w0 r => exact ⟨w0, List.mem_cons_self, rfl⟩
  have hgw := hw2 w0 hw0
  refine ⟨ws, bs, bs ++ ([("?0" : Str), ("=" : Str) ++ w0] : List Str), hw1, hb1, by rw [List.length_append, hb1]; rfl, ?_⟩
  have hl5 : (bs ++ ([("?0" : Str), ("=" : Str) ++ w0] : List Str)).length = 5 := by rw [List.length_append, hb1]; rfl
  have hLm : (bs.map PV.str) ++ [.str "?0", .str (("=" : Str) ++ w0)] = (bs ++ ([("?0" : Str), ("=" : Str) ++ w0] : List Str)).map PV.str := by rw [List.map_append]; rfl
  refine call_ at_ c0 (call_ at_ hw3 ?_)
  refine call_ at_ c1 (call_ at_ hkb (call_ at_ hb3 ?_))
  refine v_get hg0 (v_bin (add_ss [] "=" w0 ?_) ?_)
  · have : w0.length ≤ 1000 := by unfold good at hgw; exact om735 hgw
    show 1 + _ ≤ _
    exact om734 this
  refine v_bin (add_ll [] (by rw [List.length_map, hb1]; exact Nat.le_of_ble_eq_true rfl)) ?_
  rw [hLm]
  generalize bs ++ ([("?0" : Str), ("=" : Str) ++ w0] : List Str) = ls at hl5 ⊢
  refine vFor.const (fun k σ' => ∃ U : FI, (∀ kv ∈ U, Un kv.2) ∧ (U.map (·.1)).Nodup ∧ U.length ≤ k ∧ (∀ j, j < k → ∀ w, ls[j]? = some w → w ∈ U.map (·.1)) ∧ σ' = [.dict false (fd U)]) ⟨[], (fun _ q => nomatch q), List.nodup_nil, Nat.le_refl _, (fun j hj => absurd hj (Nat.not_lt_zero j)), rfl⟩ ?_ ?_
  · rintro k x σ' hx ⟨U, hU, hUn, hlen, hk, rfl⟩
    obtain ⟨rfl, hk5⟩ := rng_get (n := 5) hx
    obtain ⟨p, hp, hn⟩ := run_unit (cellAt ns (2 + k)) 37 [.dict false (fd U)]
    have hw : ls[k]? = some ls[k] := List.getElem?_eq_getElem (by exact om733 hl5 hk5)
    have hs : setAt [.dict false (fd U)] (.ref 0) (.str ls[k]) (fv p) = some [.dict false (fd (dput U ls[k] p))] := by
      rw [← fd_put]; exact set_dP (σ := []) (by rw [fd_len]; exact om732 hlen hk5) _ _
    refine call_ at_ (cAt2 at_ h 2 k (by exact om731 hk5) _) (call_ at_ hn ?_)
    refine v_get (idx_lst _ _ k (.str ls[k]) (by exact om730 hk5) (by rw [List.getElem?_map, hw]; rfl)) ?_
    refine v_set hs ?_
    refine ⟨_, ?_, rfl, dput U ls[k] p, UOk.put hU hp, dput_nodup hUn, Nat.le_trans (dput_more ..) (by exact om262 hlen), fun j hj w hw' => ?_, rfl⟩
    · rfl
    · rcases Nat.lt_succ_iff_lt_or_eq.mp hj with q | q
      · exact dput_mem.mpr (.inr (hk j q w hw'))
      · subst q; rw [hw] at hw'; cases hw'; exact dput_mem.mpr (.inl rfl)
  · rintro σ' ⟨U, hU, hUn, hlen, hk, rfl⟩
    have h4 : (rngInts 0 5).length = 5 := rng_len 5
    rw [h4] at hlen hk
    refine ⟨.ini 14 [some (.lst (ns.map .int)), some (.lst (ws.map .str)), some (.lst (bs.map .str)), some (.lst (ls.map .str)), some (.ref 0)], rfl, okE_l rfl, U, ⟨hU, hlen, hUn⟩, fun l hl => ?_, rfl, rfl⟩
    obtain ⟨j, hj⟩ := List.getElem?_of_mem hl
    exact hk j (by have := (List.getElem?_eq_some_iff.mp hj).1; exact om729 hl5 this) l hj
end
noncomputable def J2 (s : PV) (ws bs ls : List Str) (ρ : Nv) (σ : AH) : Prop := ∃ (U : FI) (N : MI) (V : FI) (t : T), UOk U ∧ (∀ l ∈ ls, l ∈ U.map (·.1)) ∧ NOk N ∧ VOk V ∧ (∀ w ∈ ws, w ∈ N.map (·.1)) ∧ (∀ w ∈ ws, w ∈ V.map (·.1)) ∧ Gd 4 t ∧ σ = [.dict false (fd U), .dict false (nd N), .dict false (fd V)] ∧ ρ = .ini 14 [some s, some (.lst (ws.map .str)), some (.lst (bs.map .str)), some (.lst (ls.map .str)), some (.ref 0), none, some (tv t), some (.ref 1), some (.ref 2)]
theorem set_d1 {a b c : AObj} {D : List (Str × PV)} (hl : D.length ≤ 1000000) (k : Str) (v : PV) : setAt [a, .dict false D, c] (.ref 1) (.str k) v = some [a, .dict false (dput D k v), c] := if_pos (decide_eq_true hl)
theorem set_d2 {a b : AObj} {D : List (Str × PV)} (hl : D.length ≤ 1000000) (k : Str) (v : PV) : setAt [a, b, .dict false D] (.ref 2) (.str k) v = some [a, b, .dict false (dput D k v)] := if_pos (decide_eq_true hl)
section
variable {c : Cx} (at_ : At G 40 c) {ns : List Int} (h : ns.length ≤ 63) {ws bs ls : List Str} (hws : ws.length = 4) (hbs : bs.length = 3) (hls : ls.length = 5)
include at_ h hws hbs hls
theorem lawB {X : Str → AH → Prop} {ρ : Nv} {σ : AH} (j : J1 (.lst (ns.map .int)) ws bs ls ρ σ) : vSs c (takeP 4 (dropP 5 F_law.body)) ρ σ (Cut (J2 (.lst (ns.map .int)) ws bs ls)) X := by
  obtain ⟨U, hU, hUk, rfl, rfl⟩ := j
  have W : Wd ws bs := ⟨by exact om219 hws, by exact om218 hws, by exact om217 hbs, by exact om216 hbs⟩
  obtain ⟨D, hD, hDp⟩ := dep_pick (cellAt ns 8)
  obtain ⟨t, t1, t2⟩ := run_tree W 3 (cellAt ns 7) D 2 32 [.dict false (fd U)] hD
  refine call_ at_ (cAt at_ h 7 (by decide) _) (call_ at_ (cAt at_ h 8 (by decide) _) (v_get (hDp _) (call_ at_ t2 (v_upd (isU_tv t) rfl ?_))))
  refine vFor.const (fun k σ' => ∃ (N : MI) (V : FI), ((∀ kv ∈ N, SM kv.2) ∧ (N.map (·.1)).Nodup ∧ N.length ≤ k) ∧ ((∀ kv ∈ V, Fr 40 kv.2) ∧ (V.map (·.1)).Nodup ∧ V.length ≤ k) ∧ (∀ j, j < k → ∀ w, ws[j]? = some w → w ∈ N.map (·.1)) ∧ (∀ j, j < k → ∀ w, ws[j]? = some w → w ∈ V.map (·.1)) ∧ σ' = [.dict false (fd U), .dict false (nd N), .dict false (fd V)]) ⟨[], [], ⟨(fun _ q => nomatch q), List.nodup_nil, Nat.le_refl _⟩, ⟨(fun _ q => nomatch q), List.nodup_nil, Nat.le_refl _⟩, (fun j hj => absurd hj (Nat.not_lt_zero j)), (fun j hj => absurd hj (Nat.not_lt_zero j)), rfl⟩ ?_ ?_
  · rintro k x σ' hx ⟨N, V, ⟨hN1, hN2, hN3⟩, ⟨hV1, hV2, hV3⟩, hkN, hkV, rfl⟩
    obtain ⟨rfl, hk4⟩ := rng_get (n := 4) hx
    have hw : ws[k]? = some ws[k] := List.getElem?_eq_getElem (by exact om441 hws hk4)
    obtain ⟨m, hm, hms⟩ := run_small (cellAt ns (9 + k)) (ls := ls) (by exact om728 hls) (by exact om727 hls) 38 [.dict false (fd U), .dict false (nd N), .dict false (fd V)]
    obtain ⟨p, hp, hn⟩ := run_number (mix (cellAt ns (9 + k)) 3) 37 [.dict false (fd U), .dict false (nd (dput N ws[k] m)), .dict false (fd V)]
    have hs1 : setAt [.dict false (fd U), .dict false (nd N), .dict false (fd V)] (.ref 1) (.str ws[k]) (mv m) = some [.dict false (fd U), .dict false (nd (dput N ws[k] m)), .dict false (fd V)] := by
      rw [← nd_put]; exact set_d1 (b := .dict false (fd U)) (by rw [nd_len]; exact om442 hN3 hk4) _ _
    have hs2 : setAt [.dict false (fd U), .dict false (nd (dput N ws[k] m)), .dict false (fd V)] (.ref 2) (.str ws[k]) (fv p) = some [.dict false (fd U), .dict false (nd (dput N ws[k] m)), .dict false (fd (dput V ws[k] p))] := by
      rw [← fd_put]; exact set_d2 (by rw [fd_len]; exact om442 hV3 hk4) _ _
    refine call_ at_ (cAt2 at_ h 9 k (by exact om726 hk4) _) (call_ at_ hms ?_)
    refine v_get (idx_lst _ _ k (.str ws[k]) (by exact om440 hk4) (by rw [List.getElem?_map, hw]; rfl)) ?_
    refine v_set hs1 ?_
    refine call_ at_ (cAt2 at_ h 9 k (by exact om726 hk4) _) (call_ at_ (run_mix _ 3 39 _) (call_ at_ hn ?_))
    refine v_get (idx_lst _ _ k (.str ws[k]) (by exact om440 hk4) (by rw [List.getElem?_map, hw]; rfl)) ?_
    refine v_set hs2 ?_
    refine ⟨_, ?_, rfl, dput N ws[k] m, dput V ws[k] p, ⟨dput_all hN1 hm, dput_nodup hN2, Nat.le_trans (dput_more ..) (by exact om262 hN3)⟩, ⟨dput_all hV1 hp, dput_nodup hV2, Nat.le_trans (dput_more ..) (by exact om262 hV3)⟩, fun j hj w hw' => ?_, fun j hj w hw' => ?_, rfl⟩
    · rfl
    · rcases Nat.lt_succ_iff_lt_or_eq.mp hj with q | q
      · exact dput_mem.mpr (.inr (hkN j q w hw'))
      · subst q; rw [hw] at hw'; cases hw'; exact dput_mem.mpr (.inl rfl)
    · rcases Nat.lt_succ_iff_lt_or_eq.mp hj with q | q
      · exact dput_mem.mpr (.inr (hkV j q w hw'))
      · subst q; rw [hw] at hw'; cases hw'; exact dput_mem.mpr (.inl rfl)
  · rintro σ' ⟨N, V, ⟨hN1, hN2, hN3⟩, ⟨hV1, hV2, hV3⟩, hkN, hkV, rfl⟩
    have h4 : (rngInts 0 4).length = 4 := rng_len 4
    rw [h4] at hN3 hV3 hkN hkV
    have key : ∀ w ∈ ws, ∃ j, j < 4 ∧ ws[j]? = some w := fun w hw => by
      obtain ⟨j, hj⟩ := List.getElem?_of_mem hw
      exact ⟨j, by have := (List.getElem?_eq_some_iff.mp hj).1; exact om725 hws this, hj⟩
    refine ⟨.ini 14 [some (.lst (ns.map .int)), some (.lst (ws.map .str)), some (.lst (bs.map .str)), some (.lst (ls.map .str)), some (.ref 0), none, some (tv t), some (.ref 1), some (.ref 2)], rfl, okE_l (bif_f (isU_tv t) rfl), U, N, V, t, hU, hUk, ⟨hN1, hN2, hN3⟩, ⟨hV1, hV2, hV3⟩, fun w hw => ?_, fun w hw => ?_, t1, rfl, rfl⟩
    · obtain ⟨j, hj, e⟩ := key w hw; exact hkN j hj w e
    · obtain ⟨j, hj, e⟩ := key w hw; exact hkV j hj w e
end
end Mine

set_option autoImplicit false
set_option maxRecDepth 100000
set_option linter.unusedVariables false
set_option linter.unusedSimpArgs false
set_option exponentiation.threshold 2000
namespace Mine
open PySem
theorem eqP_pure (σ : AH) {v : PV} (h : plain v = true) : eqP σ v v = some true := by
  have hp := (Bool.and_eq_true_iff.mp h).1
  have e : eqP σ v v = eqV v v := by cases v <;> first | rfl | cases hp
  rw [e]
  unfold eqV
  rw [h, pvEq_refl v hp]; rfl
theorem ne_pure (σ : AH) {v : PV} (h : plain v = true) : cmpP σ .NotEq v v = some false := by
  show ((eqP σ v v).map (!·)).or _ = _
  rw [eqP_pure σ h]; rfl
theorem ne_fv (σ : AH) (p : Int × Int) : cmpP σ .NotEq (fv p) (fv p) = some false := ne_pure σ rfl
theorem outV_plain (U : FI) {t : T} (h : t.ht ≤ 100) : plain (outV (RT U t)) = true :=
  Bool.and_eq_true_iff.mpr ⟨(outV_ok U t).1, decide_eq_true (Nat.le_trans (outV_ok U t).2.1 (by exact om743 h))⟩
theorem dctEq_self {D : List (Str × PV)} (hn : (D.map (·.1)).Nodup) (hp : ∀ kv ∈ D, pureV kv.2 = true) : dctEq D D = true := by
  refine Bool.and_eq_true_iff.mpr ⟨beq_self_eq_true _, List.all_eq_true.mpr fun kv hkv => ?_⟩
  rw [dget_mem hn (show (kv.1, kv.2) ∈ D from hkv)]
  exact pvEq_refl _ (hp kv hkv)
theorem fd_plain (L : FI) : plainD (fd L) = true := List.all_eq_true.mpr fun kv hkv => by
  obtain ⟨q, _, rfl⟩ := List.mem_map.mp hkv; rfl
theorem nd_plain (L : MI) : plainD (nd L) = true := List.all_eq_true.mpr fun kv hkv => by
  obtain ⟨q, _, rfl⟩ := List.mem_map.mp hkv; exact mv_plain _
theorem eq_d {σ : AH} {i : Nat} {D : List (Str × PV)} (h : deref σ (.ref i) = .dct D) (hp : plainD D = true) (hs : dctEq D D = true) : eqP σ (.dct D) (.ref i) = some true := by
  unfold eqP
  rw [h]
  show (if plainD D && plainD D then some (dctEq D D) else none) = _
  rw [hp, hs]; rfl
theorem eq_fd {σ : AH} {i : Nat} {L : FI} (h : deref σ (.ref i) = .dct (fd L)) (hn : (L.map (·.1)).Nodup) : eqP σ (.dct (fd L)) (.ref i) = some true :=
  eq_d h (fd_plain L) (dctEq_self (by unfold fd; rw [List.map_map]; exact hn) (fd_pure L))
theorem eq_nd {σ : AH} {i : Nat} {L : MI} (h : deref σ (.ref i) = .dct (nd L)) (hn : (L.map (·.1)).Nodup) : eqP σ (.dct (nd L)) (.ref i) = some true :=
  eq_d h (nd_plain L) (dctEq_self (by unfold nd; rw [List.map_map]; exact hn) fun kv hkv => by obtain ⟨q, _, rfl⟩ := List.mem_map.mp hkv; exact mv_pure _)
theorem tri_ne {σ : AH} {a b c x y z : PV} (h0 : eqP σ (.tup [a, b, c]) (.tup [x, y, z]) = none) (h1 : eqP σ a x = some true) (h2 : eqP σ b y = some true) (h3 : eqP σ c z = some true) : cmpP σ .NotEq (.tup [a, b, c]) (.tup [x, y, z]) = some false := by
  show ((eqP σ (.tup [a, b, c]) (.tup [x, y, z])).map (!·)).or ((eqP σ a x).bind fun r => (eqP σ b y).bind fun t => (eqP σ c z).map fun u => !(r && t && u)) = _
  rw [h0, h1, h2, h3]; rfl
theorem ddel_len {α : Type} (D : List (Str × α)) (k : Str) : (ddel D k).length ≤ D.length := List.length_filter_le ..
theorem UOk.del {U : FI} (h : UOk U) (k : Str) : UOk (ddel U k) := ⟨fun kv hkv => h.un kv (List.mem_filter.mp hkv).1, Nat.le_trans (ddel_len ..) h.len, h.nd.sublist (List.filter_sublist.map _)⟩
theorem NOk.del {N : MI} (h : NOk N) (k : Str) : NOk (ddel N k) := ⟨fun kv hkv => h.sm kv (List.mem_filter.mp hkv).1, h.nd.sublist (List.filter_sublist.map _), Nat.le_trans (ddel_len ..) h.len⟩
theorem VOk.del {V : FI} (h : VOk V) (k : Str) : VOk (ddel V k) := ⟨fun kv hkv => h.fr kv (List.mem_filter.mp hkv).1, h.nd.sublist (List.filter_sublist.map _), Nat.le_trans (ddel_len ..) h.len⟩
theorem NOk.len' {N : MI} (h : NOk N) : (Mine.nd N).length ≤ 1000000 := by rw [nd_len]; exact Nat.le_trans h.len (by decide)
theorem pop0 {b c : AObj} {D : List (Str × PV)} (hl : D.length ≤ 1000000) {k : Str} {v : PV} (hk : dget D k = some v) : bmP [.dict false D, b, c] .pop (.ref 0) [.str k] = some (v, [.dict false (ddel D k), b, c]) := by
  show (if small D.length then (dget D k).map fun x => (x, [AObj.dict false (ddel D k), b, c]) else none) = _
  exact (if_pos (show small D.length = true from decide_eq_true hl)).trans (by rw [hk]; rfl)
theorem pop1 {a c : AObj} {D : List (Str × PV)} (hl : D.length ≤ 1000000) {k : Str} {v : PV} (hk : dget D k = some v) : bmP [a, .dict false D, c] .pop (.ref 1) [.str k] = some (v, [a, .dict false (ddel D k), c]) := by
  show (if small D.length then (dget D k).map fun x => (x, [a, AObj.dict false (ddel D k), c]) else none) = _
  exact (if_pos (show small D.length = true from decide_eq_true hl)).trans (by rw [hk]; rfl)
theorem pop2 {a b : AObj} {D : List (Str × PV)} (hl : D.length ≤ 1000000) {k : Str} {v : PV} (hk : dget D k = some v) : bmP [a, b, .dict false D] .pop (.ref 2) [.str k] = some (v, [a, b, .dict false (ddel D k)]) := by
  show (if small D.length then (dget D k).map fun x => (x, [a, b, AObj.dict false (ddel D k)]) else none) = _
  exact (if_pos (show small D.length = true from decide_eq_true hl)).trans (by rw [hk]; rfl)
noncomputable def B9 : PSs := dropP 4 (dropP 5 F_law.body)
noncomputable def B11 : PSs := dropP 2 B9
noncomputable def B13 : PSs := dropP 2 B11
noncomputable def B14 : PSs := dropP 1 B13
noncomputable def B16 : PSs := dropP 2 B14
noncomputable def JJ (P : FI → MI → FI → Prop) (s : PV) (ws bs ls : List Str) (ρ : Nv) (σ : AH) : Prop := ∃ (U : FI) (N : MI) (V : FI) (t : T), UOk U ∧ NOk N ∧ VOk V ∧ P U N V ∧ Gd 4 t ∧ σ = [.dict false (fd U), .dict false (nd N), .dict false (fd V)] ∧ ρ = .ini 14 [some s, some (.lst (ws.map .str)), some (.lst (bs.map .str)), some (.lst (ls.map .str)), some (.ref 0), none, some (tv t), some (.ref 1), some (.ref 2)]
noncomputable def P3 (ws : List Str) (_ : FI) (N : MI) (V : FI) : Prop := (∀ w ∈ ws, w ∈ N.map (·.1)) ∧ (∀ w ∈ ws, w ∈ V.map (·.1))
noncomputable def P4 (ws : List Str) (_ : FI) (N : MI) (_ : FI) : Prop := ∀ w ∈ ws, w ∈ N.map (·.1)
noncomputable def P5 (_ : FI) (_ : MI) (_ : FI) : Prop := True
theorem dict_0 {U : FI} (hU : UOk U) {b : Bool} {σ : AH} (h : σ[0]? = some (.dict b (fd U))) : biP σ .dict [.ref 0] = some (.f (.dict (fd U))) := by
  show (dictD (deref σ (.ref 0))) = _
  rw [deref_d h]
  exact if_pos (decide_eq_true hU.len')
section
variable {c : Cx} (at_ : At G 40 c) {ns : List Int} (h : ns.length ≤ 63) {ws bs ls : List Str} (hws : ws.length = 4) (hls : ls.length = 5)
include at_ h hws hls
omit hls in
theorem word_at (σ : AH) (x : Int) : ∃ w ∈ ws, getAt σ (.lst (ws.map .str)) (.int (x.fmod 4)) = some (.v (.str w)) := by
  obtain ⟨j, hj, ej⟩ := fmod_toNat x (n := 4) (by decide)
  have hw : ws[j]? = some ws[j] := List.getElem?_eq_getElem (by exact om441 hws hj)
  refine ⟨ws[j], List.getElem_mem _, ?_⟩
  rw [show x.fmod 4 = (j : Int) from ej]
  exact idx_lst _ _ j _ (by exact om440 hj) (by rw [List.getElem?_map, hw]; rfl)
theorem lawC1 {X : Str → AH → Prop} {ρ : Nv} {σ : AH} (j : J2 (.lst (ns.map .int)) ws bs ls ρ σ) : vSs c (takeP 2 B9) ρ σ (Cut (JJ (P3 ws) (.lst (ns.map .int)) ws bs ls)) X := by
  obtain ⟨U, N, V, t, hU, hUk, hN, hV, hNk, hVk, gt, rfl, rfl⟩ := j
  have hht := gt.ht
  have c13 : ∀ σ, _ := fun σ => cAt at_ h 13 (by decide) σ
  refine v_bi (dict_0 hU (b := false) rfl) ?_
  refine call_ at_ (told_retold hU gt.ok (n := 33) (by exact om738 hht) _) ?_
  refine call_ at_ (run_lretold hU (b := false) rfl t gt.ok 37 (by exact om737 hht) (by decide)) ?_
  refine v_cmp (ne_pure _ (outV_plain U (by exact om736 hht))) ?_
  refine call_ at_ (c13 _) ?_
  refine pick.mk (fun e => ?_) fun e => ?_
  · obtain ⟨n, hn, en⟩ := int_pick (fmod2 (cellAt ns 13)) 5 3
    obtain ⟨k, hk, ek⟩ : ∃ k : Nat, k < 5 ∧ ((cellAt ns 13).fdiv 4).fmod n = k := by
      have := fmod_bd ((cellAt ns 13).fdiv 4) (n := n) (by exact om742 hn)
      exact ⟨(((cellAt ns 13).fdiv 4).fmod n).toNat, by exact om741 hn this, by exact om740 this⟩
    have hl : ls[k]? = some ls[k] := List.getElem?_eq_getElem (by exact om733 hls hk)
    obtain ⟨p, hp⟩ := dget_some (hUk ls[k] (List.getElem_mem _))
    refine call_ at_ (c13 _) (call_ at_ (c13 _) (v_get (en _) (v_mod (by exact om739 hn) ?_)))
    refine v_get (show getAt _ (.lst (ls.map .str)) (.int (((cellAt ns 13).fdiv 4).fmod n)) = some (.v (.str ls[k])) by rw [ek]; exact idx_lst _ _ k _ (by exact om730 hk) (by rw [List.getElem?_map, hl]; rfl)) ?_
    refine v_bm (pop0 hU.len' (v := fv p) (by rw [fd_get, hp]; rfl)) ?_
    rw [fd_del]
    exact ⟨.ini 14 [some (.lst (ns.map .int)), some (.lst (ws.map .str)), some (.lst (bs.map .str)), some (.lst (ls.map .str)), some (.ref 0), none, some (tv t), some (.ref 1), some (.ref 2)], rfl, okE_l (bif_f (isU_tv t) rfl), ddel U ls[k], N, V, t, hU.del _, hN, hV, ⟨hNk, hVk⟩, gt, rfl, rfl⟩
  · exact ⟨.ini 14 [some (.lst (ns.map .int)), some (.lst (ws.map .str)), some (.lst (bs.map .str)), some (.lst (ls.map .str)), some (.ref 0), none, some (tv t), some (.ref 1), some (.ref 2)], rfl, okE_l (bif_f (isU_tv t) rfl), U, N, V, t, hU, hN, hV, ⟨hNk, hVk⟩, gt, rfl, rfl⟩
theorem lawC2 {X : Str → AH → Prop} {ρ : Nv} {σ : AH} (j : JJ (P3 ws) (.lst (ns.map .int)) ws bs ls ρ σ) : vSs c (takeP 2 B11) ρ σ (Cut (JJ (P4 ws) (.lst (ns.map .int)) ws bs ls)) X := by
  obtain ⟨U, N, V, t, hU, hN, hV, ⟨hNk, hVk⟩, gt, rfl, rfl⟩ := j
  have hht := gt.ht
  have c14 : ∀ σ, _ := fun σ => cAt at_ h 14 (by decide) σ
  refine v_bi (dict_0 hU (b := false) rfl) ?_
  refine call_ at_ (told_retold hU gt.ok (n := 33) (by exact om738 hht) _) ?_
  refine call_ at_ (run_lretold hU (b := false) rfl t gt.ok 37 (by exact om737 hht) (by decide)) ?_
  refine v_cmp (ne_pure _ (outV_plain U (by exact om736 hht))) ?_
  refine call_ at_ (c14 _) ?_
  refine pick.mk (fun e => ?_) fun e => ?_
  · obtain ⟨w, hw, hi⟩ := word_at at_ h hws [.dict false (fd U), .dict false (nd N), .dict false (fd V)] ((cellAt ns 14).fdiv 4)
    obtain ⟨p, hp⟩ := dget_some (hVk w hw)
    refine call_ at_ (c14 _) (v_get hi ?_)
    refine v_bm (pop2 hV.len' (v := fv p) (by rw [fd_get, hp]; rfl)) ?_
    rw [fd_del]
    exact ⟨.ini 14 [some (.lst (ns.map .int)), some (.lst (ws.map .str)), some (.lst (bs.map .str)), some (.lst (ls.map .str)), some (.ref 0), none, some (tv t), some (.ref 1), some (.ref 2)], rfl, okE_l (bif_f (isU_tv t) rfl), U, N, ddel V w, t, hU, hN, hV.del _, hNk, gt, rfl, rfl⟩
  · exact ⟨.ini 14 [some (.lst (ns.map .int)), some (.lst (ws.map .str)), some (.lst (bs.map .str)), some (.lst (ls.map .str)), some (.ref 0), none, some (tv t), some (.ref 1), some (.ref 2)], rfl, okE_l (bif_f (isU_tv t) rfl), U, N, V, t, hU, hN, hV, hNk, gt, rfl, rfl⟩
theorem lawC3 {X : Str → AH → Prop} {ρ : Nv} {σ : AH} (j : JJ (P4 ws) (.lst (ns.map .int)) ws bs ls ρ σ) : vSs c (takeP 1 B13) ρ σ (Cut (JJ P5 (.lst (ns.map .int)) ws bs ls)) X := by
  obtain ⟨U, N, V, t, hU, hN, hV, hNk, gt, rfl, rfl⟩ := j
  have c14 : ∀ σ, _ := fun σ => cAt at_ h 14 (by decide) σ
  refine call_ at_ (c14 _) ?_
  refine pick.mk (fun e => ?_) fun e => ?_
  · obtain ⟨w, hw, hi⟩ := word_at at_ h hws [.dict false (fd U), .dict false (nd N), .dict false (fd V)] ((cellAt ns 14).fdiv 4)
    obtain ⟨m, hp⟩ := dget_some (hNk w hw)
    refine call_ at_ (c14 _) (v_get hi ?_)
    refine v_bm (pop1 hN.len' (v := mv m) (by rw [nd_get, hp]; rfl)) ?_
    rw [nd_del]
    exact ⟨.ini 14 [some (.lst (ns.map .int)), some (.lst (ws.map .str)), some (.lst (bs.map .str)), some (.lst (ls.map .str)), some (.ref 0), none, some (tv t), some (.ref 1), some (.ref 2)], rfl, okE_l (bif_f (isU_tv t) rfl), U, ddel N w, V, t, hU, hN.del _, hV, trivial, gt, rfl, rfl⟩
  · exact ⟨.ini 14 [some (.lst (ns.map .int)), some (.lst (ws.map .str)), some (.lst (bs.map .str)), some (.lst (ls.map .str)), some (.ref 0), none, some (tv t), some (.ref 1), some (.ref 2)], rfl, okE_l (bif_f (isU_tv t) rfl), U, N, V, t, hU, hN, hV, trivial, gt, rfl, rfl⟩
end
end Mine

set_option autoImplicit false
set_option maxRecDepth 100000
set_option linter.unusedVariables false
set_option linter.unusedSimpArgs false
set_option linter.unusedSectionVars false
set_option exponentiation.threshold 2000
namespace Mine
open PySem
noncomputable def St (V : FI) (N : MI) (U : FI) (ks : List Str) (D : List (Str × PV)) (w : PV) : Prop :=
  (w = .ref 3 ∧ (∀ k ∈ ks, (o1 V N U k).isSome = true) ∧ D = fd (rs V N U ks)) ∨ (w = .none ∧ ∃ k ∈ ks, o1 V N U k = none)
theorem St.u {V : FI} {N : MI} {U : FI} {ks : List Str} {D : List (Str × PV)} {w : PV} (h : St V N U ks D w) : isU w = false := by
  rcases h with ⟨rfl, _⟩ | ⟨rfl, _⟩ <;> rfl
theorem St.no {V : FI} {N : MI} {U : FI} {ks : List Str} {D : List (Str × PV)} {k : Str} (h : o1 V N U k = none) : St V N U (ks ++ [k]) D .none := .inr ⟨rfl, k, List.mem_append_right _ List.mem_cons_self, h⟩
noncomputable def J6 (s : PV) (ws bs ls : List Str) (ρ : Nv) (σ : AH) : Prop := ∃ (U : FI) (N : MI) (V : FI) (t : T) (D : List (Str × PV)) (w : PV), UOk U ∧ NOk N ∧ VOk V ∧ St V N U (N.map (·.1)) D w ∧ σ = [.dict false (fd U), .dict false (nd N), .dict false (fd V), .dict false D] ∧ ρ = .ini 14 [some s, some (.lst (ws.map .str)), some (.lst (bs.map .str)), some (.lst (ls.map .str)), some (.ref 0), none, some (tv t), some (.ref 1), some (.ref 2), some w]
theorem set_d3 {a b c : AObj} {D : List (Str × PV)} (hl : D.length ≤ 1000000) (k : Str) (v : PV) : setAt [a, b, c, .dict false D] (.ref 3) (.str k) v = some [a, b, c, .dict false (dput D k v)] := if_pos (decide_eq_true hl)
section
variable {c : Cx} (at_ : At G 40 c) {s : PV} (hs : isU s = false) {ws bs ls : List Str}
include at_ hs
theorem lawD {X : Str → AH → Prop} {ρ : Nv} {σ : AH} (j : JJ P5 s ws bs ls ρ σ) : vSs c (takeP 2 B14) ρ σ (Cut (J6 s ws bs ls)) X := by
  obtain ⟨U, N, V, t, hU, hN, hV, _, gt, rfl, rfl⟩ := j
  refine vFor.listI .str (N.map (·.1)) (fun dn ρ σ' => ∃ D w, St V N U dn D w ∧ σ' = [.dict false (fd U), .dict true (nd N), .dict false (fd V), .dict false D] ∧ ρ = .ini 14 [some s, some (.lst (ws.map .str)), some (.lst (bs.map .str)), some (.lst (ls.map .str)), some (.ref 0), none, some (tv t), some (.ref 1), some (.ref 2), some w]) (fun dn ρ σ' ⟨D, w, hst, _, e⟩ => e ▸ okE_l (bif_f hs (bif_f (isU_tv t) (bif_f hst.u rfl)))) (by show List.map _ (nd N) = _; unfold nd; rw [List.map_map, List.map_map]; rfl) ⟨.ini 14 [some s, some (.lst (ws.map .str)), some (.lst (bs.map .str)), some (.lst (ls.map .str)), some (.ref 0), none, some (tv t), some (.ref 1), some (.ref 2), some (.ref 3)], rfl, [], .ref 3, .inl ⟨rfl, (fun _ q => nomatch q), rfl⟩, rfl, rfl⟩ ?_ ?_
  · rintro dn k rest ρ σ' he ⟨D, w, hst, rfl, rfl⟩
    have hk : k ∈ N.map (·.1) := he ▸ List.mem_append_right _ List.mem_cons_self
    have hm := hN.at k
    have hv := hV.at k
    have hu := hst.u
    have gk : getAt [.dict false (fd U), .dict true (nd N), .dict false (fd V), .dict false D] (.ref 1) (.str k) = some (.v (mv (mG N k))) := get_dP (b := true) rfl (mG_get hk)
    have tld := told_scale hU hm 33 [.dict false (fd U), .dict true (nd N), .dict false (fd V), .dict false D]
    refine v_get gk ?_
    refine callN at_ (run_lscale hU hm (i := 0) (b := false) rfl 37) (fun e => ?_) fun r e => ?_
    · rw [e] at tld
      have e1 : o1 V N U k = none := by unfold o1; rw [e]; split <;> rfl
      refine v_get gk (v_bi (dict_0 hU (b := false) rfl) (call_ at_ tld ?_))
      exact ⟨.ini 14 [some s, some (.lst (ws.map .str)), some (.lst (bs.map .str)), some (.lst (ls.map .str)), some (.ref 0), none, some (tv t), some (.ref 1), some (.ref 2), some .none], rfl, D, .none, .no e1, rfl, rfl⟩
    · rw [e] at tld
      refine v_get gk (v_bi (dict_0 hU (b := false) rfl) (call_ at_ tld ?_))
      refine v_cmp (ne_fv _ r) ?_
      refine v_cmp (notin_d _ (v := .ref 2) rfl hV.len' k) ?_
      refine pick.mk (fun q => ?_) fun q => ?_
      · have q := not_t q
        rw [fd_has] at q
        have e1 : o1 V N U k = none := by unfold o1; rw [q]; rfl
        exact ⟨.ini 14 [some s, some (.lst (ws.map .str)), some (.lst (bs.map .str)), some (.lst (ls.map .str)), some (.ref 0), none, some (tv t), some (.ref 1), some (.ref 2), some .none], rfl, D, .none, .no e1, rfl, rfl⟩
      · have q := not_f q
        rw [fd_has] at q
        have hr := sc_pb hU hm e
        have e0 : o1 V N U k = some (lw ((vG V k).1 * r.1) ((vG V k).2 * r.2)) := (if_pos q).trans (by rw [e]; rfl)
        rcases hst with ⟨rfl, ha, rfl⟩ | ⟨rfl, ha⟩
        · have gv : getAt [.dict false (fd U), .dict true (nd N), .dict false (fd V), .dict false (fd (rs V N U dn))] (.ref 2) (.str k) = some (.v (fv (vG V k))) := get_dP (b := false) rfl (vG_get q)
          have hl : (fd (rs V N U dn)).length ≤ 1000000 := by
            rw [fd_len]
            have h1 := rs_len V N U dn
            have h2 := hN.len
            have h3 := congrArg List.length he
            rw [List.length_append, List.length_map, List.length_cons] at h3
            exact om718 h1 h2 h3
          refine v_get gv (v_mul (mulOk hv.bd.up (hr.bd (by decide)).up) ?_)
          refine v_get gv (v_mul (mulOk hv.bd.dn (hr.bd (by decide)).dn) ?_)
          refine call_ at_ (run_lowest _ (Int.mul_ne_zero hv.ne (Int.ne_of_gt hr.p2)) 38 _) ?_
          refine v_set (set_d3 hl _ _) ?_
          refine ⟨.ini 14 [some s, some (.lst (ws.map .str)), some (.lst (bs.map .str)), some (.lst (ls.map .str)), some (.ref 0), none, some (tv t), some (.ref 1), some (.ref 2), some (.ref 3)], rfl, _, .ref 3, .inl ⟨rfl, all_snoc ha (by rw [e0]; rfl), ?_⟩, rfl, rfl⟩
          rw [rs_snoc, ← fd_put, e0]; rfl
        · refine ⟨.ini 14 [some s, some (.lst (ws.map .str)), some (.lst (bs.map .str)), some (.lst (ls.map .str)), some (.ref 0), none, some (tv t), some (.ref 1), some (.ref 2), some .none], rfl, D, .none, .inr ⟨rfl, ?_⟩, rfl, rfl⟩
          obtain ⟨k2, h2, q2⟩ := ha
          exact ⟨k2, List.mem_append_left _ h2, q2⟩
  · rintro ρ σ' ⟨D, w, hst, rfl, rfl⟩
    exact ⟨.ini 14 [some s, some (.lst (ws.map .str)), some (.lst (bs.map .str)), some (.lst (ls.map .str)), some (.ref 0), none, some (tv t), some (.ref 1), some (.ref 2), some w], rfl, okE_l (bif_f hs (bif_f (isU_tv t) (bif_f hst.u rfl))), U, N, V, t, D, w, hU, hN, hV, hst, rfl, rfl⟩
omit hs in
theorem lawE {ρ : Nv} {σ : AH} (j : J6 s ws bs ls ρ σ) {X : Str → AH → Prop} : vSs c B16 ρ σ (fun f _ σ' => left false [] (.ok (f, []) σ') = .ok (.bool true) []) X := by
  obtain ⟨U, N, V, t, D, w, hU, hN, hV, hst, rfl, rfl⟩ := j
  have d2 : biP [.dict false (fd U), .dict false (nd N), .dict false (fd V), .dict false D] .dict [.ref 2] = some (.f (.dict (fd V))) := if_pos (decide_eq_true hV.len')
  have d1 : biP [.dict false (fd U), .dict false (nd N), .dict false (fd V), .dict false D] .dict [.ref 1] = some (.f (.dict (nd N))) := if_pos (decide_eq_true hN.len')
  have tld := told_rescaled hV hN hU 32 [.dict false (fd U), .dict false (nd N), .dict false (fd V), .dict false D]
  have ne : cmpP [.dict false (fd U), .dict false (nd N), .dict false (fd V), .dict false D] .NotEq (.tup [.dct (fd V), .dct (nd N), .dct (fd U)]) (.tup [.ref 2, .ref 1, .ref 0]) = some false :=
    tri_ne rfl (eq_fd rfl hV.nd) (eq_nd rfl hN.nd) (eq_fd rfl hU.nd)
  refine v_bi d2 (v_bi d1 (v_bi (dict_0 hU (b := false) rfl) ?_))
  rcases hst with ⟨rfl, ha, rfl⟩ | ⟨rfl, k, hk, ha⟩
  · rw [rsO_ok ha] at tld
    refine call_ at_ tld ?_
    refine v_cmp ne ?_
    refine v_cmp (show cmpP _ .Eq (.dct (fd (rs V N U (N.map (·.1))))) (.ref 3) = some true from eq_fd rfl (rs_nodup ..)) ?_
    exact left_q (σ := []) rfl
  · obtain ⟨d, r, e⟩ := List.append_of_mem hk
    rw [rsO_no e.symm ha] at tld
    refine call_ at_ tld ?_
    refine v_cmp ne ?_
    exact left_q (σ := []) rfl
end
theorem plain13 (ns : List Int) (h : ns.length ≤ 63) : callD G 41 "law" [.lst (ns.map .int)] [] = .ok (.bool true) [] := by
  refine run_on fn_law rfl rfl rfl fun c at_ ok => ?_
  obtain ⟨ws, bs, ls, hw, hb, hl, hA⟩ := lawA at_ h
  refine on_cut 5 F_law.body (vSs_ok _ _ _ _ _ ok hA) fun ρ1 σ1 ok1 j1 => ?_
  refine on_cut 4 (dropP 5 F_law.body) (vSs_ok _ _ _ _ _ ok1 (lawB at_ h hw hb hl j1)) fun ρ2 σ2 ok2 j2 => ?_
  refine on_cut 2 B9 (vSs_ok _ _ _ _ _ ok2 (lawC1 at_ h hw hl j2)) fun ρ3 σ3 ok3 j3 => ?_
  refine on_cut 2 B11 (vSs_ok _ _ _ _ _ ok3 (lawC2 at_ h hw hl j3)) fun ρ4 σ4 ok4 j4 => ?_
  refine on_cut 1 B13 (vSs_ok _ _ _ _ _ ok4 (lawC3 at_ h hw hl j4)) fun ρ5 σ5 ok5 j5 => ?_
  refine on_cut 2 B14 (vSs_ok _ _ _ _ _ ok5 (lawD at_ rfl j5)) fun ρ6 σ6 ok6 j6 => ?_
  exact vSs_ok _ _ _ _ _ ok6 (lawE at_ j6)
end Mine

namespace Mine
open PySem PySem.W PyProof.Rows
noncomputable def isDef : Stmt → Bool
  | .FunctionDef .. => true
  | _ => false
noncomputable def view (p : Program) : Program := { p with main := { p.main with body := p.main.body.filter isDef } }
noncomputable def excNames : List Str := ["PARTS", "MeasureError", "NoFit", "Unlike", "NoValue", "ByNought"]
noncomputable def H13 (p : Program) : Hook := (HookD.mk xtb [("PARTS", partsL)]).hook p (fun d hd => by rw [List.mem_singleton.mp hd]; decide +kernel) (by decide +kernel) (by decide +kernel)
theorem gl_of {prog : Program} {w : World} {B : Heap} {mg mb : Str → Option Value} {fs : List Env} {exc : Str → Option Addr} (q : DictIs prog w B "PARTS" partsL) (hg : B.Ns mainGlobals mg) : ∀ x v, G.const x = some v → ∃ y, (Fix.mk prog w B mg mb fs exc).mg x = some y ∧ (Fix.mk prog w B mg mb fs exc).VR (Fix.mk prog w B mg mb fs exc).g0 (Fix.mk prog w B mg mb fs exc).B v y := fun x v h => by
  have h : (if x = "PARTS" then some partsV else none) = some v := h
  split at h
  · rename_i hx
    subst hx
    cases h
    exact DictIs.vr (C := Fix.mk prog w B mg mb fs exc) q hg
  · cases h
noncomputable abbrev p13 : Program := PySem.Challenge.rw_uf010018_13.row.prog
noncomputable abbrev Xt13 (s : Shared) : Bool := xlAt (view p13) [] s && recOk (RowW.records (OpenRow.toRowW PySem.Challenge.rw_uf010018_13.row)) s
theorem two {α β γ : Type} {o : Option α} {f : α → β} {g : α → γ} {x : β} {y : γ} (h1 : o.map f = some x) (h2 : o.map g = some y) : o.map (fun s => (f s, g s)) = some (x, y) := by
  cases o with
  | none => cases h1
  | some a => cases h1; cases h2; rfl
set_option maxHeartbeats 8000000 in
theorem half0 : ∀ w : World, (fencedOpening treeTable p13 w 6000).map (fun s₀ => (topFrom treeTable p13 (w.withFollow "special-get-raises" false) 6000 s₀).map (fun s => (openSeen (view p13) excNames (importedModules p13.main.body) Xt13 true s, Hook.obs (H13 p13) s))) = some (some (openGood (view p13) excNames, Hook.val (H13 p13) (w.withFollow "special-get-raises" false))) := by
  intro w; kernel_rfl
set_option maxHeartbeats 8000000 in
theorem half1 : ∀ w : World, (fencedOpening treeTable p13 w 6000).map (fun s₀ => (topFrom treeTable p13 (w.withFollow "special-get-raises" true) 6000 s₀).map (fun s => (openSeen (view p13) excNames (importedModules p13.main.body) Xt13 true s, Hook.obs (H13 p13) s))) = some (some (openGood (view p13) excNames, Hook.val (H13 p13) (w.withFollow "special-get-raises" true))) := by
  intro w; kernel_rfl
end Mine
open PySem PySem.W PyProof.Rows
set_option maxHeartbeats 8000000 in
theorem PySem.Challenge.cw_uf010018_13_holds : PySem.Challenge.rw_uf010018_13.Holds := by
  w_on
  refine holds_law (by decide +kernel) fun said => ?_
  refine holds_open (q := Mine.view PySem.Challenge.rw_uf010018_13.row.prog) (loose := Mine.excNames) (Xt := Mine.Xt13) (XP := XL (Mine.view PySem.Challenge.rw_uf010018_13.row.prog) []) (Yf := Hook.obs (Mine.H13 PySem.Challenge.rw_uf010018_13.row.prog)) (Ya := Hook.val (Mine.H13 PySem.Challenge.rw_uf010018_13.row.prog)) (YP := Hook.says (Mine.H13 PySem.Challenge.rw_uf010018_13.row.prog)) (N := 6000) ?hl (Hook.of (Mine.H13 PySem.Challenge.rw_uf010018_13.row.prog)) (Hook.keeps (Mine.H13 PySem.Challenge.rw_uf010018_13.row.prog)) (fun s e => xl_of s (Bool.and_eq_true_iff.mp e).1) XL.keeps (by rfl) (by rfl) (by rfl) (fun s e => recFacts_of (Bool.and_eq_true_iff.mp e).2) (by rfl) (by first | assumption | decide +kernel) (by decide +kernel) ⟨rfl, rfl, rfl, rfl, rfl, by decide +kernel⟩ ?hw ?hc
  case hl => exact LeftO.of_split "special-get-raises" fun w => Mine.two (Mine.half0 w) (Mine.half1 w)
  case hw => w_witness2
  intro w s₀ s₁ mg mb G Y fa o pm cd doc dV kV ho hd hcd hD hmg hg args vals as hpre hlay hrd hwl hlo
  refine Ground.open G ?_
  intro T B D TE TW
  have Y' : (∃ exc K, Mine.XSays Mine.xtb s₁.heap exc K) ∧ ∀ d ∈ [(("PARTS" : Str), Mine.partsL)], Mine.DictIs PySem.Challenge.rw_uf010018_13.row.prog w s₁.heap d.1 d.2 := Y
  obtain ⟨⟨exc, KX, hexc⟩, hds⟩ := Y'
  have hb := Mine.bi_of_top T (by decide +kernel)
  have K := Mine.ok_of_top (prog := PySem.Challenge.rw_uf010018_13.row.prog) (w := w) (fs := []) (exc := exc) T (by decide +kernel) (by decide +kernel)
  have FN := Mine.fns_of_topD (prog := PySem.Challenge.rw_uf010018_13.row.prog) (w := w) (fs := []) (exc := exc) (tbl := Mine.tbl) T (by decide +kernel)
  have GL := Mine.gl_of (prog := PySem.Challenge.rw_uf010018_13.row.prog) (w := w) (mg := mg) (mb := mb) (fs := []) (exc := exc) (hds ("PARTS", Mine.partsL) (List.mem_singleton.mpr rfl)) T.g
  have TT : Mine.TopOK (Mine.Fix.mk PySem.Challenge.rw_uf010018_13.row.prog w s₁.heap mg mb [] exc) Mine.G := ⟨K, GL, FN, hb, Mine.XSays.excAt (C := Mine.Fix.mk PySem.Challenge.rw_uf010018_13.row.prog w s₁.heap mg mb [] exc) hexc T.g, Mine.XSays.isaAt (C := Mine.Fix.mk PySem.Challenge.rw_uf010018_13.row.prog w s₁.heap mg mb [] exc) hexc T.g, hexc.exk, fun f h => Option.isSome_iff_exists.mp h⟩
  wrow_args hpre hlay hrd hwl hlo
  rename_i ns q1 q2 q3 q4 q5 q6 q7 x q8 q9 q10 q11 w1 q12 q13 q14 hlen q15
  refine Mine.law_head (C := Mine.Fix.mk PySem.Challenge.rw_uf010018_13.row.prog w s₁.heap mg mb [] exc) (G := Mine.G) (F := Mine.F_law) (D := 40) rfl TT rfl (by decide) (by decide +kernel) hmg (by rfl) rfl w1 (Mine.plain13 ns (by omega)) fun s' hk hos hgn => GoodW.toG ⟨.inl ⟨_, .bool true, [], rfl, fun _ => rfl, .bool true, ?_, fun _ => ⟨List.nodup_nil, fun _ q => nomatch q⟩⟩, hk, hos, hgn.trans hg⟩
  exact Mine.post_true _ _ _
