import PyProof.Rows.All
import Open.Line
import PyProof.FactsAll.tuple_2
import PyProof.ListCopy
import PyProof.SeqI3
import KE.KDictOf
import PyProof.AttrMissHeap
import PySem.Challenge.RW_uf020003_09
set_option Elab.async false
set_option linter.all false
set_option maxRecDepth 100000
set_option genSizeOfSpec false
set_option genSizeOf false
set_option genInjectivity false
set_option bootstrap.genMatcherCode false
set_option tactic.hygienic false
local macro_rules
 | `(tactic| erw [$h:term]) => `(tactic| ((first | refine Eq.symm ($h ..) ▸ ?_ | refine Eq.symm ($h _) ▸ ?_ | refine Eq.symm ($h _ _) ▸ ?_ | rewrite [$h:term]); try (with_reducible rfl)))
 | `(tactic| erw [← $h:term]) => `(tactic| ((first | refine ($h ..) ▸ ?_ | refine ($h _) ▸ ?_ | rewrite [← $h:term]); try (with_reducible rfl)))
 | `(tactic| erw [$h:term, $rs,*]) => `(tactic| ((first | refine Eq.symm ($h ..) ▸ ?_ | refine Eq.symm ($h _) ▸ ?_ | refine Eq.symm ($h _ _) ▸ ?_ | rewrite [$h:term]); erw [$rs,*]))
 | `(tactic| erw [← $h:term, $rs,*]) => `(tactic| ((first | refine ($h ..) ▸ ?_ | refine ($h _) ▸ ?_ | rewrite [← $h:term]); erw [$rs,*]))
section
open PySem PyProof.Rows
namespace Mine
theorem dNS {α : Type} {x : α} {P : Prop} (h : none = some x) : P := nomatch h
theorem dSN {α : Type} {x : α} {P : Prop} (h : some x = none) : P := nomatch h
theorem dGN {α : Type} {y : Option α} {x : α} {P : Prop} (k : y = none) (h : y = some x) : P := dNS (k.symm.trans h)
theorem dFT {P : Prop} (h : false = true) : P := Bool.noConfusion h
theorem dTF {P : Prop} (h : true = false) : P := Bool.noConfusion h
theorem dCN {α : Type} {x : α} {l : List α} {P : Prop} (h : x :: l = []) : P := nomatch h
theorem om0 {a : Nat} : a ≤ 16777216 → a ≤ 16777216 := fun h0 => h0
theorem om1 {a b c d : Nat} : a + 5 * d + 300 < c → b ≤ 200 → a + b < c := by lia
theorem om2 {a b c d : Nat} : a + 5 * d + 300 < c → b ≤ 200 → a + 1 + b < c := by lia
theorem om3 {a b c : Nat} : a + 5 * c + 300 < b → a + 1 < b := by lia
theorem om4 {a b : Nat} : a < b → a + 1 ≤ b := fun h0 => Nat.succ_le_of_lt h0
theorem om5 {b c : Nat} {a : Int} : (0 : Int) ≤ a + (↑b : Int) ∧ a + (↑b : Int) < (↑b : Int) → (a + (↑b : Int)).toNat = c → a < (0 : Int) ∧ -(↑b : Int) ≤ a ∧ c = (a + (↑b : Int)).toNat ∧ c < b := by lia
theorem om6 {b c : Nat} {a : Int} : (0 : Int) ≤ a ∧ a < (↑c : Int) → Int.toNat a = b → (0 : Int) ≤ a ∧ b = Int.toNat a ∧ b < c := by lia
theorem om7 {a b c : Nat} : a + (b + 1) < c → a + 1 + b < c := by lia
theorem om8 {a b c : Nat} : a + 5 * (b + 1) + 300 < c → a + 3 + 5 * b + 300 < c := by lia
theorem om9 {a b c d e : Nat} : a = c → d = b → e = c → e = min c d → a + (b - c) = d := by lia
theorem om10 {a b c : Nat} : a + (c + 1) < b → a + 1 < b := by lia
theorem om11 {a b : Nat} : b < a → a - (b + 1) < a - b := fun h0 => Nat.sub_succ_lt_self a b h0
theorem om12 {a : Int} : a ≤ (16777216 : Int) → a ≤ (16777216 : Int) := fun h0 => h0
theorem om13 {a b c : Int} : a ≤ b → b ≤ c → a ≤ c := fun a_1 a_2 => Int.le_trans a_1 a_2
theorem om14 {a b : Int} : a ≤ b ∨ b ≤ a := Int.le_total a b
theorem om15 {a b : Nat} : a = b → b < 64 → a ≤ 16777216 := by lia
theorem om16 {a b : Nat} : a = b → b < 64 → a < 64 := fun h0 h1 => lt_of_eq_of_lt h0 h1
theorem om17 {a b : Nat} : a + b + 1 = a + 1 + b := Nat.add_right_comm a b 1
theorem om18 {a b c : Nat} : a ≤ b → b < c → c ≤ 16777216 → a + 1 ≤ 16777216 := by lia
theorem om19 {a b : Nat} : b < a → a + 1 - (b + 1) < a + 1 - b := fun h => Nat.sub_lt_sub_left (Nat.lt_succ_of_lt h) (Nat.lt_succ_self b)
theorem om20 {a : Nat} : ¬(↑a : Int) < (0 : Int) := Int.not_ofNat_neg a
theorem om21 {a b : Nat} : a < b → (0 : Int) ≤ (↑a : Int) ∧ (↑a : Int) < (↑b : Int) := by lia
theorem om22 {a b : Nat} : a < b → (↑a : Int) ≤ (↑b : Int) := by lia
theorem om23 {a : Nat} : a + a = a * 2 := Eq.symm (Nat.mul_two a)
theorem om24 {a b : Nat} : a ≤ b → a ≤ b + 1 := fun h0 => Nat.le_add_right_of_le h0
theorem om25 {a b : Nat} : a ≤ b → a ≤ b := fun h0 => h0
theorem om26 {a b : Nat} : a + 1 ≤ b → a ≤ b := fun h0 => Nat.le_of_succ_le h0
theorem om27 {a b c : Nat} : a = c → c + 1 ≤ b → a < b := fun h0 h1 => lt_of_eq_of_lt h0 h1
theorem om28 {a b : Nat} : a < b → a < b + 1 := fun h0 => Nat.lt_add_right 1 h0
theorem om29 {a b c : Nat} : a < c → c ≤ b → a < b := fun h0 h1 => Nat.lt_of_lt_of_le h0 h1
theorem om30 {a b c : Nat} : a ≤ c → c ≤ b → max (0 : Int) (min (↑a : Int) (↑b : Int)) = (↑a : Int) ∧ max (0 : Int) (min (↑c : Int) (↑b : Int)) = (↑c : Int) := fun h k => ⟨by rw [Int.min_eq_left (Int.ofNat_le.2 (Nat.le_trans h k))]; exact Int.max_eq_right (Int.natCast_nonneg a), by rw [Int.min_eq_left (Int.ofNat_le.2 k)]; exact Int.max_eq_right (Int.natCast_nonneg c)⟩
theorem om31 {a b : Nat} : (((↑a : Int) - (↑b : Int) + (1 : Int) - (1 : Int)) / (1 : Int)).toNat = a - b := by rw [Int.ediv_one, Int.add_sub_cancel]; exact Int.toNat_sub a b
theorem om32 {a b : Nat} : ((↑a : Int) + (1 : Int) * (↑b : Int)).toNat = a + b := by rw [Int.one_mul]; exact Int.toNat_natCast (a + b)
theorem om33 {a b : Nat} : ¬(↑b : Int) < (↑a : Int) → a - b = (0 : Nat) := fun h => Nat.sub_eq_zero_of_le (Nat.le_of_not_lt fun k => h (Int.ofNat_lt.2 k))
theorem om34 {a b c : Nat} : a + 1 ≤ b - c → a ≤ b - c := by lia
theorem om35 {a b c : Nat} : b + 1 ≤ c - a → a + b < c := fun h0 => Nat.add_lt_of_lt_sub' h0
theorem om36 {a b c : Nat} : a ≤ c → a - b ≤ c - b := fun h0 => Nat.sub_le_sub_right h0 b
theorem om37 {a : Nat} : (0 : Int) = max (0 : Int) (min (0 : Int) (↑a : Int)) := Int.neg_inj.mp rfl
theorem om38 {a : Nat} : ((0 : Int) + (↑a : Int) * (1 : Int)).toNat = a := by rw [Int.mul_one, Int.zero_add]; exact Int.toNat_natCast a
theorem om39 {a b : Nat} : ((↑a : Int) + (↑b : Int) * (1 : Int)).toNat = a + b := by rw [Int.mul_one]; exact Int.toNat_natCast (a + b)
theorem om40 {a b : Nat} : a ≤ b → min (↑a : Int) (↑b : Int) = (↑a : Int) := fun h => Int.min_eq_left (Int.ofNat_le.2 h)
theorem om41 {a b c d : Nat} : a + d ≤ c → b < d → a + b < c := by lia
theorem om42 {a b c : Nat} : c < b + 1 - a → min a (b - c) = a := fun h => Nat.min_eq_left (Nat.le_sub_of_add_le (Nat.le_of_lt_succ (Nat.add_comm c a ▸ Nat.add_lt_of_lt_sub h)))
theorem om43 {a b c : Nat} : a < c + 1 - b → a + b ≤ c := fun h => Nat.le_of_lt_succ (Nat.add_lt_of_lt_sub h)
theorem om44 {a b : Nat} : b - (1 : Nat) ≤ a → (↑a : Int) - (↑b : Int) + (1 : Int) = (↑(a + (1 : Nat) - b) : Int) := by lia
theorem om45 {a b : Nat} : 1 ≤ b → a ≤ 1000 → a + 1 - b ≤ 1000 := fun h k => Nat.le_trans (Nat.sub_le_sub_left h (a + 1)) k
theorem om46 {a b : Nat} : b ≤ a + 1 → a + 1 + 1 - b = a + 1 - b + 1 := fun h0 => Nat.sub_add_comm h0
theorem om47 {a b : Nat} : a ≤ b → b - a ≤ 0 → a = b := fun h k => Nat.le_antisymm h (Nat.le_of_sub_eq_zero (Nat.le_zero.1 k))
theorem om48 {a b c : Nat} : a - b ≤ c + 1 → a - ((b + a) / 2 + 1) ≤ c := by omega
theorem om49 {a b : Nat} : a < b → (a + b) / 2 + 1 ≤ b := fun h => Nat.div_lt_of_lt_mul (by rw [Nat.two_mul]; exact Nat.add_lt_add_right h b)
theorem om50 {a b c : Nat} : a < (b + c) / 2 + 1 → ¬a = (b + c) / 2 → a < (b + c) / 2 := by lia
theorem om51 {a b c : Nat} : a < b → b ≤ c → (a + b) / 2 < c := fun h k => Nat.lt_of_lt_of_le (Nat.div_lt_of_lt_mul (by rw [Nat.two_mul]; exact Nat.add_lt_add_right h b)) k
theorem om52 {a b c : Nat} : b - a ≤ c + 1 → (a + b) / 2 - a ≤ c := by omega
theorem om53 {a b : Nat} : a < b → a ≤ (a + b) / 2 := fun h => (Nat.le_div_iff_mul_le (by decide)).2 (by rw [Nat.mul_two]; exact Nat.add_le_add_left (Nat.le_of_lt h) a)
theorem om54 {a b c : Nat} : a < b → b ≤ c → (a + b) / 2 ≤ c := fun h k => Nat.le_trans (Nat.le_of_lt (Nat.div_lt_of_lt_mul (by rw [Nat.two_mul]; exact Nat.add_lt_add_right h b))) k
theorem om55 {a b : Nat} : ¬b < a → a ≤ b := fun h0 => Nat.le_of_not_lt h0
theorem om56 {a b c : Nat} : (a + b) / 2 ≤ c → ¬c = (a + b) / 2 → (a + b) / 2 < c := fun h0 h1 => Nat.lt_of_le_of_ne h0 fun a_1 => h1 (id (Eq.symm a_1))
theorem om57 {a b c : Nat} : c < b → ¬c < a → a ≤ b := by lia
theorem om58 {a b : Nat} : a ≤ b → ¬a < b → a = b := by lia
theorem om59 {a : Nat} : a - 0 ≤ a := Nat.sub_le a 0
theorem om60 {a b c d : Nat} : c < d → d ≤ c → a ≤ b := by lia
theorem om61 {a b : Nat} : a < b → a + 1 < b + 1 := fun h0 => Nat.add_lt_add_right h0 1
theorem om62 {a b : Nat} : a ≤ b → a < b + 1 := fun h0 => Nat.lt_succ_of_le h0
theorem om63 {a b c : Nat} : a < c + 1 → a - b ≤ c := fun h => Nat.le_trans (Nat.sub_le a b) (Nat.le_of_lt_succ h)
theorem om64 {a b : Nat} : a ≤ b → a + (b - a) = b := fun h0 => Nat.add_sub_of_le h0
theorem om65 {a b c : Nat} : ¬c ≤ a → a + (b + 1) - c ≤ b := fun h => Nat.sub_le_of_le_add (by rw [Nat.add_comm a, Nat.add_right_comm b 1 a]; exact Nat.add_lt_add_left (Nat.lt_of_not_le h) b)
theorem om66 {a b c : Nat} : a < c + 1 → a + (b + (c + 1) - a) = c + 1 + b := fun h => (Nat.add_sub_of_le (Nat.le_trans (Nat.le_of_lt h) (Nat.le_add_left _ _))).trans (Nat.add_comm _ _)
theorem om67 {a : Nat} : 1 ≤ 13 + a := by lia
theorem om68 {a b : Nat} : a ≤ b → 13 + a ≤ b + 13 := by lia
theorem om69 {a b c : Nat} : a + b ≤ c → b > 0 → a + 1 + (b - 1) ≤ c := fun h k => by rw [Nat.add_assoc, Nat.add_sub_of_le k]; exact h
theorem om70 {a : Nat} : a ≤ 9 → a - 1 ≤ 9 := fun h => Nat.le_trans (Nat.sub_le a 1) h
theorem om71 {a : Nat} : a = 0 → ¬a > 0 := fun h0 => Std.Rxo.size_eq_zero_iff_not_le.mp h0
theorem om72 {a b : Nat} : a = b + 1 → a > 0 := by lia
theorem om73 {a b : Nat} : a = b + 1 → a - 1 = b := fun h0 => Eq.symm (Nat.eq_sub_of_add_eq (id (Eq.symm h0)))
theorem om74 {a : Nat} : a ≤ 9 → a + 1 ≤ 10 * (0 + 1) := fun h0 => Nat.succ_le_succ h0
theorem om75 {a b c : Nat} : a ≤ 9 → b ≤ 10 * (c + 1) → a + 1 + b ≤ 10 * (c + 1 + 1) := fun h k => by rw [Nat.mul_succ 10 (c + 1), Nat.add_comm (a + 1)]; exact Nat.add_le_add k (Nat.succ_le_succ h)
theorem om76 {a : Nat} : 1 ≤ a → a = a - 1 + 1 := fun h0 => Eq.symm (Nat.sub_add_cancel h0)
theorem om77 {a b c : Nat} : a ≤ 10 * (c + 1) → c + 1 ≤ b + 13 → a < 10 * (b + 15) := by lia
theorem om78 {a b : Nat} : a + 1 < b + 1 → a < b := fun h0 => Nat.succ_lt_succ_iff.mp h0
theorem om79 {a b c : Nat} : a + c ≤ b → a ≤ b := fun h0 => Nat.le_of_add_right_le h0
theorem om80 {a : Nat} : a ≤ 0 → a = 0 := fun h0 => Nat.eq_zero_of_le_zero h0
theorem om81 {a b : Nat} : a + 1 ≤ b + 1 → a ≤ b := fun h0 => Nat.le_of_lt_succ h0
theorem om82 {a b : Nat} : a < b + 1 → a ≤ b := by lia
theorem om83 {a b c d e : Nat} : c < d → d = e → e ≤ c → a = b := by lia
theorem om84 {a b : Nat} : a ≥ b → ¬b < a → a = b := by lia
theorem om85 {a b : Nat} : a ≤ b + 13 → a < b + 15 := by lia
theorem om86 {a b c : Nat} : a < c → c = b + 1 → a < b + 1 := fun h0 h1 => Nat.lt_of_lt_of_eq h0 h1
theorem om87 {a b c : Nat} : a < c + 1 → b = c + 1 → a < b := fun h0 h1 => Nat.lt_of_lt_of_eq h0 (id (Eq.symm h1))
theorem om88 {a b c d : Nat} : a = c → c + (d + 1) ≤ b → a ≤ b := by lia
theorem om89 {a b c : Nat} : a + (b + 1) ≤ c → a + 1 + b ≤ c := by lia
theorem om90 {a b : Nat} : a + 1 + b = a + (b + 1) := by lia
theorem om91 {a b : Nat} : a + (b + 1) = a + 1 + b := by lia
theorem om92 {a b : Nat} : a + 1 ≤ b → a < b := by lia
theorem om93 {a b : Nat} : a ≤ b → a + 0 ≤ b := by lia
theorem om94 {a b c : Nat} : a < min b c → a < b := fun h => Nat.lt_of_lt_of_le h (Nat.min_le_left b c)
theorem om95 {a b : Nat} : a ≤ b → b ≠ a → a < b := fun h0 h1 => Nat.lt_of_le_of_ne h0 (id (Ne.symm h1))
theorem om96 {a b c : Nat} : a < c + 1 → b < a → a - (b + 1) < c := fun h k => Nat.lt_of_lt_of_le (Nat.sub_lt (Nat.zero_lt_of_lt k) (Nat.succ_pos b)) (Nat.le_of_lt_succ h)
theorem om97 {a b : Nat} : a < b → a + 1 + (b - (a + 1)) = b := fun h => Nat.add_sub_of_le h
theorem om98 {a : Nat} : a ≤ 100 → a ≤ 16777216 := by lia
theorem om99 {a : Nat} : a ≤ 127 → ¬a + 1 > 16777216 := by lia
theorem om100 {a b : Nat} : a = b → b ≤ 100 → a ≤ 100 := fun h0 h1 => le_of_eq_of_le h0 h1
theorem om101 {a b : Nat} : a = b + 1 → b < 60 → a ≤ 100 := by lia
theorem om102 {a : Nat} : ¬(a + 1) * 5 ≥ 7 * 3 → a + 1 < 5 := by lia
theorem om103 {a : Nat} : ¬(a + 1) * 5 ≥ 31 * 3 → a + 1 < 19 := by lia
theorem om104 {a : Nat} : a < 60 → a + 1 < 77 := by lia
theorem om105 {a b c : Nat} : a = c → c = b + 1 → a ≤ b + 1 := by lia
theorem om106 {a b : Nat} : (a + 1) * 5 ≥ b * 3 → a < 5 → b = 7 → a = 4 := by lia
theorem om107 : 4 + 1 ≤ 31 := Nat.le_of_ble_eq_true rfl
theorem om108 : 4 + 1 < 19 := Nat.lt_of_sub_eq_succ rfl
theorem om109 {a b : Nat} : (a + 1) * 5 ≥ b * 3 → a < 19 → b = 31 → a = 18 := by lia
theorem om110 : 18 + 1 ≤ 127 := Nat.le_of_ble_eq_true rfl
theorem om111 : 18 + 1 < 77 := Nat.lt_of_sub_eq_succ rfl
theorem om112 {a b : Nat} : a = b + 1 → a ≤ b + 1 := by lia
theorem om113 {a b : Nat} : a ≤ b → b - a = 0 → a = b := fun h k => Nat.le_antisymm h (Nat.le_of_sub_eq_zero k)
theorem om114 {a b c : Nat} : b - a = c + 1 → a < b := fun h0 => Nat.lt_of_sub_eq_succ h0
theorem om115 {a b c : Nat} : a ≤ b → b < c → c < 60 → a < 60 := fun h k l => Nat.lt_of_le_of_lt h (Nat.lt_trans k l)
theorem om116 {a b c : Nat} : a - b = c + 1 → a - (b + 1) = c := fun h => congrArg Nat.pred h
theorem om117 {a b c : Nat} : a ≤ c + 1 → c ≤ b → a ≤ b + 1 := by lia
theorem om118 {a : Nat} : a < a + 1 := Nat.lt_add_one a
theorem om119 {a b : Nat} : a < b + 1 → ¬a = b → a < b := by lia
theorem om120 {a : Nat} : a - 0 = a - 0 := Nat.sub_zero a
theorem om121 {a b : Nat} : a + 5 < b → a + 1 + 1 + 1 < b := by lia
theorem om122 {a b c : Nat} : a < c + 1 → c + 1 ≤ b → a < b := by lia
theorem om123 {a b c : Nat} : a ≤ c → b = c → a ≤ b := fun h0 h1 => le_of_le_of_eq h0 (id (Eq.symm h1))
theorem om124 {a b c : Nat} : a < c → b = c → a < b := fun h0 h1 => Nat.lt_of_lt_of_eq h0 (id (Eq.symm h1))
theorem om125 {a b : Nat} : a = b → a ≤ b := fun h0 => Nat.le_of_eq h0
theorem om126 {a b c : Nat} : b ≤ c → ¬a ≥ b → (a + b) / 2 ≤ c := fun k h => Nat.le_trans (Nat.le_of_lt (Nat.div_lt_of_lt_mul (by rw [Nat.two_mul]; exact Nat.add_lt_add_right (Nat.lt_of_not_le h) b))) k
theorem om127 {a : Nat} : 2 ≤ a → a = a - 1 + 1 := fun h => (Nat.sub_add_cancel (Nat.le_of_succ_le h)).symm
theorem om128 {a : Nat} : 2 ≤ a → ¬0 ≥ a := by lia
theorem om129 {a : Nat} : 2 ≤ a → 1 ≤ a := by lia
theorem om130 : 1 ≤ 1 := by decide
theorem om131 {a : Nat} : a < 64 → a ≤ 16777216 := by lia
theorem om132 {a : Nat} : a < 64 → a ≤ 16777216 + 1 := by lia
theorem om133 {a : Nat} : ¬a < 2 → 2 ≤ a := by lia
theorem om134 {a : Nat} : a ≤ 127 → a ≤ 16777216 := by lia
theorem om135 {a b : Nat} : a ≤ b → b < 60 → a ≤ 16777216 := by lia
theorem om136 {a b c : Nat} : a = b → b ≤ c → c < 60 → a < 64 := by lia
theorem om137 {a b c : Nat} : c = a → c ≤ b → a ≤ b := fun h0 h1 => le_of_eq_of_le (id (Eq.symm h0)) h1
theorem om138 {a b c : Nat} : a ≤ b → b < c → c < 60 → a ≤ 16777216 := by lia
theorem om139 {a b : Nat} : a ≤ b → a + 1 ≤ b + 1 := fun h0 => Nat.add_le_add_right h0 1
theorem om140 {a b : Nat} : a + 5 < b → a + 1 + 1 < b := by lia
theorem om141 {a b : Nat} : a = b → b < 60 → a < 60 := by lia
theorem om142 {a b c : Nat} : c < 0 → a = b := by lia
theorem om143 {a b c : Nat} : a = c → b < c → ¬a = b := by lia
theorem om144 {a b c : Nat} : a = c → c < b → a < b := by lia
theorem om145 {a b c d : Nat} : a + c ≤ d + b → b ≤ a → d ≤ c → a = b := by lia
theorem om146 {a b c d : Nat} : c + a ≤ b + d → d ≤ c → a ≤ b := by lia
theorem om147 {a b : Nat} : b = a → b ≠ 0 → 0 < a := by lia
theorem om148 {a b c d : Nat} : 1 ≤ b → 1 ≤ c → a = d + b → c ≤ d → 2 ≤ a := by lia
theorem om149 {a b : Nat} : 1 ≤ a + b → ¬1 ≤ b → 1 ≤ a := by lia
theorem om150 {a b : Nat} : 2 ≤ a + b → b = 0 → 2 ≤ a := by lia
theorem om151 {a b : Nat} : 2 ≤ a + b → ¬2 ≤ b → 1 ≤ a := by lia
theorem om152 {a : Nat} : ¬a = 0 → 1 ≤ a := fun h0 => Nat.one_le_iff_ne_zero.mpr h0
theorem om153 {a b : Nat} : 1 ≤ b + a → ¬1 ≤ b → 1 ≤ a := by lia
theorem om154 {a b c : Nat} : a * 2 ≤ c → c ≤ b → a * 2 ≤ b := fun h0 h1 => Nat.le_trans h0 h1
theorem om155 {a b c : Nat} : 0 < c → a + c ≤ b → a < b := by lia
theorem om156 {a : Nat} : ¬a ≤ 1 → 2 ≤ a := by lia
theorem om157 {a : Nat} : 1 ≤ 0 → 1 ≤ a := by lia
theorem om158 {a : Nat} : 2 ≤ a → 0 < a := fun h0 => Nat.zero_lt_of_lt h0
theorem om159 {a b c : Nat} : a < c → c = b + 1 → a ≤ b := by lia
theorem om160 {a b : Nat} : 2 ≤ b → b = a + 1 → 1 ≤ a := by lia
theorem om161 {a b : Nat} : a < b + 1 → ¬a < b → a = b := fun h0 h1 => Nat.eq_of_lt_succ_of_not_lt h0 h1
theorem om162 {a b c d e : Nat} : c < d → d < e → e ≤ c → a ≤ b := by lia
theorem om163 {a b c d e : Nat} : c ≤ d → ¬c ≤ d + e → a < b := by lia
theorem om164 {a b : Nat} : a ≤ b → ¬a = b → a < b := by lia
theorem om165 {a b : Nat} : a ≤ 1 + b → a ≤ b + 1 := by lia
theorem om166 {a b c d e f : Nat} : d < e → e ≤ f → f ≤ d → a + b + 1 ≤ c := by lia
theorem om167 {a b : Nat} : b < a → 0 < a := fun h0 => Nat.zero_lt_of_lt h0
theorem om168 {a b c d e : Nat} : a ≤ c + d → b ≤ e → a + b ≤ c + (d + e) := by lia
theorem om169 {a b c d : Nat} : a ≤ b + d → d ≤ c → a ≤ b + c := by lia
theorem om170 {a b : Nat} : a ≤ b + 1 → ¬a = b + 1 → a ≤ b := by lia
theorem om171 {a b c : Nat} : 0 < c → a + 1 ≤ b → a + 1 + 1 ≤ b + c := fun h0 h1 => Nat.add_le_add h1 h0
theorem om172 {a b c : Nat} : a + 1 ≤ c → c ≤ b → a < b + 1 := by lia
theorem om173 {a b : Nat} : ¬b < a → a + (b - a) = b := fun h => Nat.add_sub_of_le (Nat.le_of_not_lt h)
theorem om174 {a b : Nat} : a + 1 = b + 1 → a = b := fun h0 => Nat.add_right_cancel h0
theorem om175 {a b c : Nat} : a ≤ c → ¬b ≤ c → a < b := by lia
theorem om176 {a b : Nat} : a ≤ b → b ≤ a → a = b := fun h0 h1 => Nat.le_antisymm h0 h1
theorem om177 {a b c : Nat} : a ≤ b → a ≤ b + c := fun h0 => Nat.le_add_right_of_le h0
theorem om178 {a : Nat} : a ≤ 300 → a + (300 - a) = 300 := fun h => Nat.add_sub_of_le h
theorem om179 {a b : Nat} : a < b → b ≤ 300 → a + (300 - a) = 300 := fun h k => Nat.add_sub_of_le (Nat.le_trans (Nat.le_of_lt h) k)
theorem om180 {a b c d e : Nat} : a ≤ b + c → b ≤ d → d ≤ 4 * 4 → c = e → e ≤ 16 * 16 → a ≤ 272 := by lia
theorem om181 {a b c d e : Nat} : c = a → a ≤ d → b = d + 1 → e ≤ c + 1 → b ≤ e → a + 1 = b := by lia
theorem om182 {a b : Nat} : a ≤ a - 1 + b + 1 := Nat.le_trans (Nat.sub_le_iff_le_add.1 (Nat.le_refl (a - 1))) (Nat.succ_le_succ (Nat.le_add_right _ b))
theorem om183 {a : Nat} : a ≤ a - 1 + 1 := Nat.sub_le_iff_le_add.1 (Nat.le_refl (a - 1))
theorem om184 {a : Nat} : 1 ≤ a → a - 1 + 1 ≤ a := fun h => Nat.le_of_eq (Nat.sub_add_cancel h)
theorem om185 {a : Nat} : 1 ≤ a → a - 1 + 1 - a = 0 := fun h => by rw [Nat.sub_add_cancel h, Nat.sub_self]
theorem om186 {a b : Nat} : b = a - 1 → a - 1 ≤ b := by lia
theorem om187 {a b : Nat} : a - 1 + (b + 1) - (a - 1) = b + 1 := Nat.add_sub_self_left (a - 1) (b + 1)
theorem om188 {a b : Nat} : a - 1 + (b + 1) - (b + 1) = a - 1 := Nat.add_sub_self_right (a - 1) (b + 1)
theorem om189 {a b : Nat} : a ≤ b + 1 → a ≤ b + 1 + 1 := by lia
theorem om190 {a b : Nat} : a ≤ b + 1 → a + 1 ≤ b + 1 + 1 := by lia
theorem om191 {a : Nat} : a ≤ 300 + 1 → a ≤ 302 := by lia
theorem om192 {a b : Nat} : a < b → a ≤ b - 1 := fun h0 => Nat.le_sub_one_of_lt h0
theorem om193 {a b : Nat} : a < b → b ≤ 4 → a ≤ 4 := by lia
theorem om194 {a b c d e : Nat} : c ≤ d → a ≤ e → b ≤ c → d ≤ 4 → e ≤ 4 * 4 → a + b ≤ 16777216 := by lia
theorem om195 {a b : Nat} : a ≤ b → b ≤ 4 * 4 → a ≤ 16 := fun h0 h1 => Nat.le_trans h0 h1
theorem om196 {a b c : Nat} : a ≤ b + 1 ∧ c ≤ b + 1 → a ≤ b + 1 + 1 ∧ c ≤ b + 1 + 1 := fun h => ⟨Nat.le_succ_of_le h.1, Nat.le_succ_of_le h.2⟩
theorem om197 {a b c : Nat} : a ≤ b + 1 ∧ c ≤ b + 1 → a + 1 ≤ b + 1 + 1 ∧ c + 1 ≤ b + 1 + 1 := fun h => ⟨Nat.succ_le_succ h.1, Nat.succ_le_succ h.2⟩
theorem om198 {a : Nat} : a ≤ 272 → a ≤ 16777216 := by lia
theorem om199 {a b : Nat} : a < b → b ≤ 272 → a ≤ 300 := by lia
theorem om200 {a b c : Nat} : a ≤ b → b < c → c ≤ 272 → a ≤ 16777216 := by lia
theorem om201 {a b c : Nat} : a + c ≤ 272 → a + min b c ≤ 16777216 := fun h => Nat.le_trans (Nat.add_le_add_left (Nat.min_le_right b c) a) (Nat.le_trans h (by decide))
theorem om202 {a b c d : Nat} : b < c → c ≤ 272 → d ≤ b + 1 ∧ a ≤ b + 1 → a + 1 ≤ 16777216 := by lia
theorem om203 {a b c d : Nat} : a ≤ b + 1 ∧ c ≤ b + 1 → b < d → d ≤ 272 → a + 1 ≤ 16777216 := by lia
theorem om204 {a b : Nat} : a < b → b ≤ 272 → 301 - (a + 1) < 301 - a := fun h k => Nat.sub_lt_sub_left (Nat.lt_of_lt_of_le h (Nat.le_trans k (by decide))) (Nat.lt_succ_self a)
theorem om205 {a b c : Nat} : a < b → a + 1 ≤ b + c := by lia
theorem om206 {a b c : Nat} : a < c → c < b → a < b := fun h0 h1 => Nat.lt_trans h0 h1
theorem om207 {a b : Nat} : a ≤ b → b ≤ 272 → a ≤ 300 := by lia
theorem om208 {a b : Nat} : a = 1 → b ≤ 1 → max a b ≤ 1 := fun h k => Nat.max_le.2 ⟨Nat.le_of_eq h, k⟩
theorem om209 {a b : Nat} : a ≤ b → b < 60 → a < 60 := fun h0 h1 => Nat.lt_of_le_of_lt h0 h1
theorem om210 {a b : Nat} : a ≤ b → b < 60 → a ≤ 64 := by lia
theorem om211 {a b c d : Nat} : b = c + a → b ≤ d → d ≤ 64 → a ≤ 64 := by lia
theorem om212 {a : Nat} : a ≤ 64 → a ≤ 16777216 := by lia
theorem om213 {a b c : Nat} : b + a ≤ c → c ≤ 64 → a ≤ 64 := by lia
theorem om214 {a b : Nat} : a ≤ b → b ≤ 64 → a ≤ 16777216 := by lia
theorem om215 {a : Nat} : a ≤ 65 → 66 - (a + 1) < 66 - a := fun h => Nat.sub_lt_sub_left (Nat.lt_succ_of_le h) (Nat.lt_succ_self a)
theorem om216 {a b c : Nat} : a + 1 ≤ b → b ≤ c → c ≤ 64 → a + 1 ≤ 65 := by lia
theorem om217 {a : Nat} : 1 ≤ a → (a - 1).succ = a := fun h => Nat.sub_add_cancel h
theorem om218 {a b : Nat} : a ≤ 300 + 1 ∧ b ≤ 300 + 1 → a ≤ 302 ∧ b ≤ 302 := by lia
theorem om219 {a b : Nat} : a ≤ 300 + 1 ∧ b ≤ 300 + 1 → a ≤ 302 := by lia
theorem om220 {a : Nat} : a ≤ 8 → a ≤ 16777216 := by lia
theorem om221 {a : Nat} : a ≤ 302 → a ≤ 1000 := by lia
theorem om222 {a b : Nat} : a ≤ 302 ∧ b ≤ 302 → a ≤ 1000 := by lia
theorem om223 {a : Nat} : (1 : Nat) ≤ a → (↑a : Int) - (1 : Int) = (↑(a - (1 : Nat)) : Int) := fun h => (Int.ofNat_sub h).symm
theorem om224 {a b c : Nat} : a ≤ 4 → c ≤ 302 ∧ b ≤ 302 → a - 1 + b ≤ 16777216 := fun h k => Nat.le_trans (Nat.add_le_add (Nat.le_trans (Nat.sub_le a 1) h) k.2) (by decide)
theorem om225 {a b c : Nat} : a ≤ 4 → b ≤ 302 ∧ c ≤ 302 → a - 1 + b ≤ 16777216 := fun h k => Nat.le_trans (Nat.add_le_add (Nat.le_trans (Nat.sub_le a 1) h) k.1) (by decide)
theorem om226 {a b c : Nat} : a = b - 1 + c → b ≤ 4 → c ≤ 900 → a ≤ 1000 := fun e h k => e ▸ Nat.le_trans (Nat.add_le_add (Nat.le_trans (Nat.sub_le b 1) h) k) (by decide)
theorem om227 {a b c d : Nat} : a = b - 1 + c → d = b - 1 + c → d ≤ 1000 → a ≤ 1000 := by lia
theorem om228 {a b c : Nat} : b = a - 1 + c → a - 1 ≤ b := fun h0 => Nat.le.intro (id (Eq.symm h0))
theorem om229 {a b : Nat} : (↑(a - (1 : Nat) + b) : Int) - (↑(a - (1 : Nat)) : Int) = (↑b : Int) := Int.sub_eq_iff_eq_add'.mpr rfl
theorem om230 {a b c : Nat} : b = c - 1 + a → a ≤ b := by lia
theorem om231 {a b : Nat} : a - 1 + b - (a - 1) = b := Eq.symm (Nat.eq_sub_of_add_eq' rfl)
theorem om232 {a : Nat} : a ≤ 302 → a ≤ 900 := by lia
theorem om233 {a b : Nat} : a ≤ 4 → b ≤ 302 → a - 1 + b ≤ 16777216 := fun h k => Nat.le_trans (Nat.add_le_add (Nat.le_trans (Nat.sub_le a 1) h) k) (by decide)
theorem om234 {a b : Nat} : (1 : Nat) ≤ a → (↑(a - (1 : Nat) + b) : Int) = (↑a : Int) - (1 : Int) + (↑b : Int) := fun h => congrArg (· + (↑b : Int)) (Int.ofNat_sub h)
theorem om235 {a b c : Nat} : a = b - 1 + c → b ≤ 4 → c ≤ 302 → a ≤ 1000 := fun e h k => e ▸ Nat.le_trans (Nat.add_le_add (Nat.le_trans (Nat.sub_le b 1) h) k) (by decide)
theorem om236 {a : Nat} : a < 2 → ¬a = 1 → a = 0 := by lia
theorem om237 {a : Nat} : a ≠ a + 1 := by lia
theorem om238 {a : Nat} : 1 ≤ a → a = (a - 1).succ := fun h => (Nat.sub_add_cancel h).symm
theorem om239 {a : Nat} : a ≤ 4 → a - 1 ≤ 3 := fun h0 => Nat.sub_le_of_le_add h0
theorem om240 {a b : Nat} : a ≤ b → b ≤ 16 * 3 → a < 60 := by lia
theorem om241 {a b : Nat} : a ≤ b → b ≤ 8 → a ≤ 8 := fun h0 h1 => Nat.le_trans h0 h1
theorem om242 {a b : Nat} : a ≤ b → b ≤ 8 * (4 * 3) → a ≤ 1000 := by lia
theorem om243 {a : Nat} : a ≤ 8 → a ≤ 1000 := by lia
theorem om244 {a b : Nat} : a < b → a ≤ b := by lia
theorem xEEA {α β : Type} {P : α → β → Prop} {Q : α → β → Prop} {G : Prop} (h : ∃ a, ∃ b, P a b ∧ Q a b) (k : ∀ a, ∀ b, P a b → Q a b → G) : G := let ⟨a, b, h1, h2⟩ := h; k a b h1 h2
theorem a0u {α β : Type} {P : α → β → Prop} {Q : α → β → Prop} {R : α → β → Prop} {G : Prop} (h : ∃ a, ∃ b, P a b ∧ Q a b ∧ R a b) (k : ∀ a, ∀ b, P a b → Q a b → R a b → G) : G := let ⟨a, b, h1, h2, h3⟩ := h; k a b h1 h2 h3
theorem xEA {α : Type} {P : α → Prop} {Q : α → Prop} {G : Prop} (h : ∃ a, P a ∧ Q a) (k : ∀ a, P a → Q a → G) : G := let ⟨a, h1, h2⟩ := h; k a h1 h2
theorem xEAA {α : Type} {P : α → Prop} {Q : α → Prop} {R : α → Prop} {G : Prop} (h : ∃ a, P a ∧ Q a ∧ R a) (k : ∀ a, P a → Q a → R a → G) : G := let ⟨a, h1, h2, h3⟩ := h; k a h1 h2 h3
theorem b5x {α β γ δ : Type} {P : α → β → γ → δ → Prop} {Q : α → β → γ → δ → Prop} {R : α → β → γ → δ → Prop} {S : α → β → γ → δ → Prop} {G : Prop} (h : ∃ a, ∃ b, ∃ c, ∃ d, P a b c d ∧ Q a b c d ∧ R a b c d ∧ S a b c d) (k : ∀ a, ∀ b, ∀ c, ∀ d, P a b c d → Q a b c d → R a b c d → S a b c d → G) : G := let ⟨a, b, c, d, h1, h2, h3, h4⟩ := h; k a b c d h1 h2 h3 h4
theorem a7p {α β γ δ ι : Type} {P : α → β → γ → δ → Prop} {Q : α → β → γ → δ → Prop} {R : α → β → γ → δ → Prop} {S : α → β → γ → δ → ι → Prop} {T : α → β → γ → δ → ι → Prop} {U : α → β → γ → δ → ι → Prop} {G : Prop} (h : ∃ a, ∃ b, ∃ c, ∃ d, P a b c d ∧ Q a b c d ∧ R a b c d ∧ ∃ e, S a b c d e ∧ T a b c d e ∧ U a b c d e) (k : ∀ a, ∀ b, ∀ c, ∀ d, P a b c d → Q a b c d → R a b c d → ∀ e, S a b c d e → T a b c d e → U a b c d e → G) : G := let ⟨a, b, c, d, h1, h2, h3, e, h4, h5, h6⟩ := h; k a b c d h1 h2 h3 e h4 h5 h6
theorem xA {P : Prop} {Q : Prop} {G : Prop} (h : P ∧ Q) (k : P → Q → G) : G := let ⟨h1, h2⟩ := h; k h1 h2
theorem xE {α : Type} {P : α → Prop} {G : Prop} (h : ∃ a, P a) (k : ∀ a, P a → G) : G := let ⟨a, h1⟩ := h; k a h1
theorem a4y {α β γ δ ι : Type} {P : α → β → γ → δ → ι → Prop} {Q : α → β → γ → δ → ι → Prop} {R : α → β → γ → δ → ι → Prop} {S : α → β → γ → δ → ι → Prop} {G : Prop} (h : ∃ a, ∃ b, ∃ c, ∃ d, ∃ e, P a b c d e ∧ Q a b c d e ∧ R a b c d e ∧ S a b c d e) (k : ∀ a, ∀ b, ∀ c, ∀ d, ∀ e, P a b c d e → Q a b c d e → R a b c d e → S a b c d e → G) : G := let ⟨a, b, c, d, e, h1, h2, h3, h4⟩ := h; k a b c d e h1 h2 h3 h4
theorem c8b {α β γ δ ι : Type} {P : α → β → γ → δ → ι → Prop} {Q : α → β → γ → δ → ι → Prop} {G : Prop} (h : ∃ a, ∃ b, ∃ c, ∃ d, ∃ e, P a b c d e ∧ Q a b c d e) (k : ∀ a, ∀ b, ∀ c, ∀ d, ∀ e, P a b c d e → Q a b c d e → G) : G := let ⟨a, b, c, d, e, h1, h2⟩ := h; k a b c d e h1 h2
theorem b9j {α : Type} {P : α → Prop} {Q : α → Prop} {R : α → Prop} {S : α → Prop} {T : α → Prop} {G : Prop} (h : ∃ a, P a ∧ Q a ∧ R a ∧ S a ∧ T a) (k : ∀ a, P a → Q a → R a → S a → T a → G) : G := let ⟨a, h1, h2, h3, h4, h5⟩ := h; k a h1 h2 h3 h4 h5
theorem xAA {P : Prop} {Q : Prop} {R : Prop} {G : Prop} (h : P ∧ Q ∧ R) (k : P → Q → R → G) : G := let ⟨h1, h2, h3⟩ := h; k h1 h2 h3
theorem b9k {α β : Type} {P : α → β → Prop} {Q : α → β → Prop} {R : α → β → Prop} {S : α → β → Prop} {G : Prop} (h : ∃ a, ∃ b, P a b ∧ Q a b ∧ R a b ∧ S a b) (k : ∀ a, ∀ b, P a b → Q a b → R a b → S a b → G) : G := let ⟨a, b, h1, h2, h3, h4⟩ := h; k a b h1 h2 h3 h4
theorem c7a {α β γ δ : Type} {P : α → β → γ → δ → Prop} {Q : α → β → γ → δ → Prop} {G : Prop} (h : ∃ a, ∃ b, ∃ c, ∃ d, P a b c d ∧ Q a b c d) (k : ∀ a, ∀ b, ∀ c, ∀ d, P a b c d → Q a b c d → G) : G := let ⟨a, b, c, d, h1, h2⟩ := h; k a b c d h1 h2
theorem b9l {α : Type} {P : α → Prop} {Q : α → Prop} {R : α → Prop} {S : α → Prop} {G : Prop} (h : ∃ a, P a ∧ Q a ∧ R a ∧ S a) (k : ∀ a, P a → Q a → R a → S a → G) : G := let ⟨a, h1, h2, h3, h4⟩ := h; k a h1 h2 h3 h4
theorem c3z {α β γ δ ι κ : Type} {P : α → β → γ → δ → ι → κ → Prop} {Q : α → β → γ → δ → ι → κ → Prop} {G : Prop} (h : ∃ a, ∃ b, ∃ c, ∃ d, ∃ e, ∃ f, P a b c d e f ∧ Q a b c d e f) (k : ∀ a, ∀ b, ∀ c, ∀ d, ∀ e, ∀ f, P a b c d e f → Q a b c d e f → G) : G := let ⟨a, b, c, d, e, f, h1, h2⟩ := h; k a b c d e f h1 h2
theorem xAEA {α : Type} {P : Prop} {Q : α → Prop} {R : α → Prop} {G : Prop} (h : P ∧ ∃ a, Q a ∧ R a) (k : P → ∀ a, Q a → R a → G) : G := let ⟨h1, a, h2, h3⟩ := h; k h1 a h2 h3
theorem xEE {α β : Type} {P : α → β → Prop} {G : Prop} (h : ∃ a, ∃ b, P a b) (k : ∀ a, ∀ b, P a b → G) : G := let ⟨a, b, h1⟩ := h; k a b h1
theorem a2z {α β γ : Type} {P : α → β → γ → Prop} {Q : α → β → γ → Prop} {G : Prop} (h : ∃ a, ∃ b, ∃ c, P a b c ∧ Q a b c) (k : ∀ a, ∀ b, ∀ c, P a b c → Q a b c → G) : G := let ⟨a, b, c, h1, h2⟩ := h; k a b c h1 h2
theorem b8j {α β : Type} {P : α → β → Prop} {Q : α → β → Prop} {R : α → β → Prop} {S : α → β → Prop} {T : α → β → Prop} {U : α → β → Prop} {V : α → β → Prop} {W : α → β → Prop} {G : Prop} (h : ∃ a, ∃ b, P a b ∧ Q a b ∧ R a b ∧ S a b ∧ T a b ∧ U a b ∧ V a b ∧ W a b) (k : ∀ a, ∀ b, P a b → Q a b → R a b → S a b → T a b → U a b → V a b → W a b → G) : G := let ⟨a, b, h1, h2, h3, h4, h5, h6, h7, h8⟩ := h; k a b h1 h2 h3 h4 h5 h6 h7 h8
theorem xAEE {α β : Type} {P : Prop} {Q : α → β → Prop} {G : Prop} (h : P ∧ ∃ a, ∃ b, Q a b) (k : P → ∀ a, ∀ b, Q a b → G) : G := let ⟨h1, a, b, h2⟩ := h; k h1 a b h2
theorem b9m {α β : Type} {P : α → Prop} {Q : α → β → Prop} {R : α → β → Prop} {S : α → β → Prop} {G : Prop} (h : ∃ a, P a ∧ ∃ b, Q a b ∧ R a b ∧ S a b) (k : ∀ a, P a → ∀ b, Q a b → R a b → S a b → G) : G := let ⟨a, h1, b, h2, h3, h4⟩ := h; k a h1 b h2 h3 h4
theorem b4o {α β γ δ ι : Type} {P : α → β → γ → δ → ι → Prop} {Q : α → β → γ → δ → ι → Prop} {R : α → β → γ → δ → ι → Prop} {S : α → β → γ → δ → ι → Prop} {T : α → β → γ → δ → ι → Prop} {U : α → β → γ → δ → ι → Prop} {G : Prop} (h : ∃ a, ∃ b, ∃ c, ∃ d, ∃ e, P a b c d e ∧ Q a b c d e ∧ R a b c d e ∧ S a b c d e ∧ T a b c d e ∧ U a b c d e) (k : ∀ a, ∀ b, ∀ c, ∀ d, ∀ e, P a b c d e → Q a b c d e → R a b c d e → S a b c d e → T a b c d e → U a b c d e → G) : G := let ⟨a, b, c, d, e, h1, h2, h3, h4, h5, h6⟩ := h; k a b c d e h1 h2 h3 h4 h5 h6
theorem xEEEAA {α β γ : Type} {P : α → β → γ → Prop} {Q : α → β → γ → Prop} {R : α → β → γ → Prop} {G : Prop} (h : ∃ a, ∃ b, ∃ c, P a b c ∧ Q a b c ∧ R a b c) (k : ∀ a, ∀ b, ∀ c, P a b c → Q a b c → R a b c → G) : G := let ⟨a, b, c, h1, h2, h3⟩ := h; k a b c h1 h2 h3
theorem xAAA {P : Prop} {Q : Prop} {R : Prop} {S : Prop} {G : Prop} (h : P ∧ Q ∧ R ∧ S) (k : P → Q → R → S → G) : G := let ⟨h1, h2, h3, h4⟩ := h; k h1 h2 h3 h4
theorem xEAEA {α β : Type} {P : α → Prop} {Q : α → β → Prop} {R : α → β → Prop} {G : Prop} (h : ∃ a, P a ∧ ∃ b, Q a b ∧ R a b) (k : ∀ a, P a → ∀ b, Q a b → R a b → G) : G := let ⟨a, h1, b, h2, h3⟩ := h; k a h1 b h2 h3
theorem xAE {α : Type} {P : Prop} {Q : α → Prop} {G : Prop} (h : P ∧ ∃ a, Q a) (k : P → ∀ a, Q a → G) : G := let ⟨h1, a, h2⟩ := h; k h1 a h2
inductive D where
 | none
 | bool (b : Bool)
 | int (i : Int)
 | str (s : Str)
 | tup (l : List D)
 | lst (l : List D)
 | dI (l : List (Int × D))
 | dT (l : List (List Int × D))
 | fn (f : String)
inductive V where
 | d (x : D)
 | a (x : D)
 | r (i : Nat)
 | t (l : List V)
inductive O where
 | lst (l : List D)
 | dI (l : List (Int × D))
 | dT (l : List (List Int × D))
 | lstV (l : List V)
 | dead
set_option genCtorIdx false in
inductive CE where
 | int (i : Int)
 | bool (b : Bool)
 | none
 | str (s : String)
 | var (i : Nat)
 | gv (x : String)
 | bin (op : Operator) (a b : CE)
 | neg (a : CE)
 | not (a : CE)
 | and (l : List CE)
 | or (l : List CE)
 | cmp (op : CmpOp) (a b : CE)
 | cmp2 (op1 op2 : CmpOp) (a b c : CE)
 | ite (c a b : CE)
 | tup (l : List CE)
 | lst (l : List CE)
 | dct0
 | dct1 (k v : CE)
 | sub (a i : CE)
 | slice (a : CE) (lo hi : Option CE)
 | call (f : String) (l : List CE)
 | callv (i : Nat) (l : List CE)
 | prim (f : String) (l : List CE)
 | isi (a : CE) (c : String)
 | meth (a : CE) (m : String) (l : List CE)
 | comp (elt : CE) (k : Nat) (one : Bool) (iter : CE) (cond : Option CE)
 | lam (i : Nat) (body : CE)
set_option genCtorIdx false in
inductive CS where
 | asg (i : Nat) (e : CE)
 | asgT (l : List Nat) (e : CE)
 | asgS (a i e : CE)
 | ex (e : CE)
 | ite (c : CE) (s t : List CS)
 | for1 (i : Nat) (e : CE) (b : List CS)
 | forT (l : List Nat) (e : CE) (b : List CS)
 | while (c : CE) (b : List CS)
 | ret (e : CE)
 | raise (c m : String)
 | tryx (b : List CS) (c : String) (i : Nat) (h : List CS)
noncomputable def vis : List Str -> Str -> Option Nat
 | [], _ => none
 | y :: ys, x => match vis ys x with
  | some i => some (i + 1)
  | none => if x == y then some 0 else none
noncomputable def b2i : Option NameKind -> Bool
 | some .local | some .cell | some .free => true
 | _ => false
noncomputable def b2j (names : List Str) (sc : Scope) (i : Nat) (x : Str) : Bool :=
 b2i (sc.names.lookup x) && vis names x == some i && !(x == ("__debug__" : Str)) && !(x == ("__classdict__" : Str))
noncomputable def a1l (names : List Str) (sc : Scope) (i : Nat) (x : Str) : Bool :=
 (sc.names.lookup x == some .local || sc.names.lookup x == some .cell) && vis names x == some i
noncomputable def a1i (sc : Scope) (f : String) (x : Str) : Bool := x == Str.ofString f && sc.names.lookup x == some .globalImplicit && !(x == ("__debug__" : Str))
noncomputable def a0k : List Expr -> List Str
 | [] => []
 | .Name x _ :: es => x :: a0k es
 | _ :: es => a0k es
noncomputable def a6b (sc : Scope) : Bool := sc.kind == .function && !sc.isGenerator && !sc.isCoroutine
noncomputable def a4p (E : Expr) (f : Const -> Nat -> Pos -> Bool) : Bool := if h : E.ctorIdx = 19 then @Expr.Constant.elim (fun ζ => Bool) E h f else false
noncomputable def a2l (E : Expr) (f : Str -> Pos -> Bool) : Bool := if h : E.ctorIdx = 23 then @Expr.Name.elim (fun ζ => Bool) E h f else false
noncomputable def c4a (E : Expr) (f : Expr -> Operator -> Expr -> Pos -> Bool) : Bool := if h : E.ctorIdx = 2 then @Expr.BinOp.elim (fun ζ => Bool) E h f else false
noncomputable def onUn (E : Expr) (f : UnaryOp -> Expr -> Pos -> Bool) : Bool := if h : E.ctorIdx = 3 then @Expr.UnaryOp.elim (fun ζ => Bool) E h f else false
noncomputable def b5y (E : Expr) (f : BoolOp -> List Expr -> Pos -> Bool) : Bool := if h : E.ctorIdx = 0 then @Expr.BoolOp.elim (fun ζ => Bool) E h f else false
noncomputable def a4z (E : Expr) (f : Expr -> List CmpOp -> List Expr -> Pos -> Bool) : Bool := if h : E.ctorIdx = 15 then @Expr.Compare.elim (fun ζ => Bool) E h f else false
noncomputable def b9n (E : Expr) (f : Expr -> Expr -> Expr -> Pos -> Bool) : Bool := if h : E.ctorIdx = 5 then @Expr.IfExp.elim (fun ζ => Bool) E h f else false
noncomputable def a3i (E : Expr) (f : List Expr -> Nat -> Pos -> Bool) : Bool := if h : E.ctorIdx = 25 then @Expr.Tuple.elim (fun ζ => Bool) E h f else false
noncomputable def b5z (E : Expr) (f : List Expr -> Pos -> Bool) : Bool := if h : E.ctorIdx = 24 then @Expr.List.elim (fun ζ => Bool) E h f else false
noncomputable def b6a (E : Expr) (f : List (Option Expr) -> List Expr -> Pos -> Bool) : Bool := if h : E.ctorIdx = 6 then @Expr.Dict.elim (fun ζ => Bool) E h f else false
noncomputable def b8k (E : Expr) (f : Expr -> Expr -> Pos -> Bool) : Bool := if h : E.ctorIdx = 21 then @Expr.Subscript.elim (fun ζ => Bool) E h f else false
noncomputable def b9o (E : Expr) (f : Option Expr -> Option Expr -> Option Expr -> Pos -> Bool) : Bool := if h : E.ctorIdx = 26 then @Expr.Slice.elim (fun ζ => Bool) E h f else false
noncomputable def a9k (E : Expr) (f : Expr -> List Expr -> List Keyword -> Pos -> Bool) : Bool := if h : E.ctorIdx = 16 then @Expr.Call.elim (fun ζ => Bool) E h f else false
noncomputable def c7b (E : Expr) (f : Expr -> Str -> Pos -> Bool) : Bool := if h : E.ctorIdx = 20 then @Expr.Attribute.elim (fun ζ => Bool) E h f else false
noncomputable def b9p (E : Expr) (f : Expr -> List Comprehension -> Scope -> Pos -> Bool) : Bool := if h : E.ctorIdx = 8 then @Expr.ListComp.elim (fun ζ => Bool) E h f else false
noncomputable def a7f (E : Stmt) (f : List Expr -> Expr -> Pos -> Bool) : Bool := if h : E.ctorIdx = 5 then @Stmt.Assign.elim (fun ζ => Bool) E h f else false
noncomputable def b9q (E : Stmt) (f : Expr -> Pos -> Bool) : Bool := if h : E.ctorIdx = 24 then @Stmt.Expr.elim (fun ζ => Bool) E h f else false
noncomputable def onIf (E : Stmt) (f : Expr -> List Stmt -> List Stmt -> Pos -> Bool) : Bool := if h : E.ctorIdx = 12 then @Stmt.If.elim (fun ζ => Bool) E h f else false
noncomputable def c8c (E : Stmt) (f : Expr -> Expr -> List Stmt -> List Stmt -> Pos -> Bool) : Bool := if h : E.ctorIdx = 9 then @Stmt.For.elim (fun ζ => Bool) E h f else false
noncomputable def b9r (E : Stmt) (f : Expr -> List Stmt -> List Stmt -> Pos -> Bool) : Bool := if h : E.ctorIdx = 11 then @Stmt.While.elim (fun ζ => Bool) E h f else false
noncomputable def onRet (E : Stmt) (f : Option Expr -> Pos -> Bool) : Bool := if h : E.ctorIdx = 3 then @Stmt.Return.elim (fun ζ => Bool) E h f else false
noncomputable def onRaise (E : Stmt) (f : Option Expr -> Option Expr -> Pos -> Bool) : Bool := if h : E.ctorIdx = 16 then @Stmt.Raise.elim (fun ζ => Bool) E h f else false
noncomputable def onTry (E : Stmt) (f : List Stmt -> List ExceptHandler -> List Stmt -> List Stmt -> Pos -> Bool) : Bool := if h : E.ctorIdx = 17 then @Stmt.Try.elim (fun ζ => Bool) E h f else false
noncomputable def onCI (E : Const) (f : Int -> Bool) : Bool := if h : E.ctorIdx = 2 then @Const.int.elim (fun ζ => Bool) E h f else false
noncomputable def onCB (E : Const) (f : Bool -> Bool) : Bool := if h : E.ctorIdx = 1 then @Const.bool.elim (fun ζ => Bool) E h f else false
noncomputable def onCS (E : Const) (f : Str -> Bool) : Bool := if h : E.ctorIdx = 5 then @Const.str.elim (fun ζ => Bool) E h f else false
noncomputable def a1s {α : Type} (l : List α) (b : Bool) : Bool := match l with | [] => b | _ => false
noncomputable def a1n {α : Type} (l : List α) (f : α -> List α -> Bool) : Bool := match l with | a :: l => f a l | _ => false
noncomputable def a0s (names : List Str) (sc : Scope) : List Nat -> List Expr -> Bool
 | [], E => a1s E true
 | i :: is, E => a1n E fun t ts => a2l t fun x p => a1l names sc i x && a0s names sc is ts
noncomputable def b9s {α : Type} (l : Option α) (b : Bool) : Bool := match l with | none => b | _ => false
noncomputable def a9l {α : Type} (l : Option α) (f : α -> Bool) : Bool := match l with | some a => f a | _ => false
noncomputable def onCN (c : Const) (b : Bool) : Bool := match c with | .none => b | _ => false
noncomputable def onUS (o : UnaryOp) (b : Bool) : Bool := match o with | .USub => b | _ => false
noncomputable def onUN (o : UnaryOp) (b : Bool) : Bool := match o with | .Not => b | _ => false
noncomputable def onBA (o : BoolOp) (b : Bool) : Bool := match o with | .And => b | _ => false
noncomputable def onBO (o : BoolOp) (b : Bool) : Bool := match o with | .Or => b | _ => false
noncomputable def pInt (E : Expr) (f : Int -> Nat -> Pos -> Bool) : Bool := a4p E fun c k p => onCI c fun j => f j k p
noncomputable def pBool (E : Expr) (f : Bool -> Nat -> Pos -> Bool) : Bool := a4p E fun c k p => onCB c fun j => f j k p
noncomputable def pStr (E : Expr) (f : Str -> Nat -> Pos -> Bool) : Bool := a4p E fun c k p => onCS c fun j => f j k p
noncomputable def pNone (E : Expr) (f : Nat -> Pos -> Bool) : Bool := a4p E fun c k p => onCN c (f k p)
noncomputable def pNeg (E : Expr) (f : Expr -> Pos -> Bool) : Bool := onUn E fun o x p => onUS o (f x p)
noncomputable def pNot (E : Expr) (f : Expr -> Pos -> Bool) : Bool := onUn E fun o x p => onUN o (f x p)
noncomputable def pAnd (E : Expr) (f : List Expr -> Pos -> Bool) : Bool := b5y E fun o vs p => onBA o (f vs p)
noncomputable def pOr (E : Expr) (f : List Expr -> Pos -> Bool) : Bool := b5y E fun o vs p => onBO o (f vs p)
noncomputable def pCmp (E : Expr) (f : Expr -> CmpOp -> Expr -> Pos -> Bool) : Bool := a4z E fun l os rs p => a1n os fun o os => a1s os (a1n rs fun r rs => a1s rs (f l o r p))
noncomputable def pCmp2 (E : Expr) (f : Expr -> CmpOp -> CmpOp -> Expr -> Expr -> Pos -> Bool) : Bool := a4z E fun l os rs p => a1n os fun o os => a1n os fun o' os => a1s os (a1n rs fun r rs => a1n rs fun r' rs => a1s rs (f l o o' r r' p))
noncomputable def pDct0 (E : Expr) (f : Pos -> Bool) : Bool := b6a E fun ks vs p => a1s ks (a1s vs (f p))
noncomputable def pDct1 (E : Expr) (f : Expr -> Expr -> Pos -> Bool) : Bool := b6a E fun ks vs p => a1n ks fun a ks => a9l a fun a => a1s ks (a1n vs fun b vs => a1s vs (f a b p))
noncomputable def c7c (E : Expr) (f : Expr -> Option Expr -> Option Expr -> Pos -> Pos -> Bool) : Bool := b8k E fun v s p => b9o s fun l u st sp => b9s st (f v l u sp p)
noncomputable def c4b (E : Expr) (f : Str -> Pos -> List Expr -> Pos -> Bool) : Bool := a9k E fun fn args kw pos => a2l fn fun x px => a1s kw (f x px args pos)
noncomputable def pIsi (E : Expr) (f : Str -> Pos -> Expr -> Str -> Pos -> Pos -> Bool) : Bool := a9k E fun fn args kw pos => a2l fn fun x px => a1n args fun v args => a1n args fun w args => a2l w fun y py => a1s args (a1s kw (f x px v y py pos))
noncomputable def pMeth (E : Expr) (f : Expr -> Str -> Pos -> List Expr -> Pos -> Bool) : Bool := a9k E fun fn args kw pos => c7b fn fun o n ap => a1s kw (f o n ap args pos)
noncomputable def pAsg (E : Stmt) (f : Str -> Pos -> Expr -> Pos -> Bool) : Bool := a7f E fun ts v pos => a1n ts fun t tr => a2l t fun x px => a1s tr (f x px v pos)
noncomputable def pAsgT (E : Stmt) (f : List Expr -> Nat -> Pos -> Expr -> Pos -> Bool) : Bool := a7f E fun tts v pos => a1n tts fun t tr => a3i t fun ts k p => a1s tr (f ts k p v pos)
noncomputable def pAsgS (E : Stmt) (f : Expr -> Expr -> Pos -> Expr -> Pos -> Bool) : Bool := a7f E fun tts v pos => a1n tts fun t tr => b8k t fun o k p => a1s tr (f o k p v pos)
noncomputable def pRet (E : Stmt) (f : Expr -> Pos -> Bool) : Bool := onRet E fun v pos => a9l v fun v => f v pos
noncomputable def c7d (E : Stmt) (f : Expr -> List Stmt -> Pos -> Bool) : Bool := b9r E fun e bd o pos => a1s o (f e bd pos)
noncomputable def pFor1 (E : Stmt) (f : Str -> Pos -> Expr -> List Stmt -> Pos -> Bool) : Bool := c8c E fun t it bd o pos => a2l t fun x px => a1s o (f x px it bd pos)
noncomputable def pForT (E : Stmt) (f : List Expr -> Nat -> Pos -> Expr -> List Stmt -> Pos -> Bool) : Bool := c8c E fun t it bd o pos => a3i t fun ts k p => a1s o (f ts k p it bd pos)
noncomputable def pRaise (E : Stmt) (f : Str -> Pos -> Str -> Nat -> Pos -> Pos -> Pos -> Bool) : Bool := onRaise E fun e ca pos => a9l e fun e => a9k e fun fn args kw cp => a2l fn fun x px => a1n args fun v vs => a4p v fun k a b => onCS k fun t => a1s vs (a1s kw (b9s ca (f x px t a b cp pos)))
noncomputable def pLC (E : Expr) (f : Expr -> Expr -> Expr -> List Expr -> Scope -> Pos -> Bool) : Bool := b9p E fun el gs csc pos => a1n gs fun g gs => a1s gs (match g with | ⟨tg, it, ifs, n⟩ => (n == 0) && f el tg it ifs csc pos)
noncomputable def pTry (E : Stmt) (f : List Stmt -> Str -> Pos -> Str -> List Stmt -> Pos -> Pos -> Bool) : Bool := onTry E fun bd hs oe fe pos => a1n hs fun h hs => a1s hs (a1s oe (a1s fe (match h with | .ExceptHandler ty nm hb hp => a9l ty fun ty => a2l ty fun x px => a9l nm fun n => f bd x px n hb hp pos)))
noncomputable def a1o (tg : Expr) : List Str := match tg with
 | .Name x _ => [x]
 | .Tuple ts _ _ => a0k ts
 | _ => []
noncomputable def c7e (names : List Str) (sc csc : Scope) (tn : List Str) (y : Str × NameKind) : Bool := match y.2 with
 | .cell => false
 | .local => csc.names.lookup y.1 == some .local && (tn.contains y.1 || !names.contains y.1)
 | .free => sc.names.lookup y.1 == some .cell || sc.names.lookup y.1 == some .free
 | _ => true
noncomputable def c4c (names : List Str) (sc csc : Scope) (one : Bool) (k : Nat) (tg : Expr) : Bool :=
 a6b csc && csc.names.all (c7e names sc csc (a1o tg)) && (a1o tg).length == k &&
  (match one with
   | true => a2l tg fun x p => k == 1 && csc.names.lookup x == some .local
   | false => a3i tg fun ts a b => ts.length == k && (a0k ts).all (fun x => csc.names.lookup x == some .local) && decide (a0k ts).Nodup)
set_option tactic.hygienic true in
mutual
noncomputable def isE (names : List Str) (sc : Scope) : CE -> Expr -> Bool
 | .int i, E => pInt E fun j k p => i == j
 | .bool i, E => pBool E fun j k p => i == j
 | .none, E => pNone E fun k p => true
 | .str i, E => pStr E fun j k p => j == Str.ofString i
 | .var i, E => a2l E fun x p => b2j names sc i x
 | .gv f, E => a2l E fun x p => a1i sc f x
 | .bin op a b, E => c4a E fun l o r p => op == o && isE names sc a l && isE names sc b r
 | .neg a, E => pNeg E fun x p => isE names sc a x
 | .not a, E => pNot E fun x p => isE names sc a x
 | .and l, E => pAnd E fun vs p => isEs names sc l vs
 | .or l, E => pOr E fun vs p => isEs names sc l vs
 | .cmp op a b, E => pCmp E fun l o r p => op == o && isE names sc a l && isE names sc b r && !behindInMarks o r
 | .cmp2 op1 op2 a b c, E => pCmp2 E fun l o o' r r' p => op1 == o && op2 == o' && isE names sc a l && isE names sc b r && isE names sc c r' && !behindInMarks o r && !behindInMarks o' r'
 | .ite c a b, E => b9n E fun t x y p => isE names sc c t && isE names sc a x && isE names sc b y
 | .tup l, E => a3i E fun vs k p => isEs names sc l vs
 | .lst l, E => b5z E fun vs p => isEs names sc l vs
 | .dct0, E => pDct0 E fun p => true
 | .dct1 k v, E => pDct1 E fun a b p => isE names sc k a && isE names sc v b
 | .sub a i, E => b8k E fun v s p => isE names sc a v && isE names sc i s
 | .slice a lo hi, E => c7c E fun v l u sp p => isE names sc a v && isEo names sc lo l && isEo names sc hi u
 | .call f l, E => c4b E fun x px args pos => a1i sc f x && isEs names sc l args && decide (l.length < 15)
 | .callv i l, E => c4b E fun x px args pos => b2j names sc i x && isEs names sc l args && decide (l.length < 15)
 | .prim f l, E => c4b E fun x px args pos => a1i sc f x && isEs names sc l args && decide (l.length < 15)
 | .isi a c, E => pIsi E fun x px v y py pos => a1i sc "isinstance" x && isE names sc a v && a1i sc c y
 | .meth a m l, E => pMeth E fun o n ap args pos => isE names sc a o && n == Str.ofString m && isEs names sc l args && decide (l.length < 15) && ap.endLine == pos.line
 | .comp elt k one iter cond, E => pLC E fun el tg it ifs csc pos => c4c names sc csc one k tg && isE names sc iter it && isE (names ++ a1o tg) csc elt el && isEc (names ++ a1o tg) csc cond ifs
 | .lam i body, E => false
noncomputable def isEs (names : List Str) (sc : Scope) : List CE -> List Expr -> Bool
 | [], E => match E with
  | [] => true
  | _ => false
 | e :: es, E => match E with
  | x :: xs => isE names sc e x && isEs names sc es xs
  | _ => false
noncomputable def isEo (names : List Str) (sc : Scope) : Option CE -> Option Expr -> Bool
 | none, E => match E with
  | none => true
  | _ => false
 | some e, E => match E with
  | some x => isE names sc e x
  | _ => false
noncomputable def isEc (names : List Str) (sc : Scope) : Option CE -> List Expr -> Bool
 | none, E => match E with
  | [] => true
  | _ => false
 | some e, E => match E with
  | [x] => isE names sc e x
  | _ => false
end
set_option tactic.hygienic true in
mutual
noncomputable def isS (names : List Str) (sc : Scope) : CS -> Stmt -> Bool
 | .asg i e, S => pAsg S fun x px v pos => a1l names sc i x && isE names sc e v
 | .asgT l e, S => pAsgT S fun ts k p v pos => a0s names sc l ts && isE names sc e v && decide (l.Nodup)
 | .asgS a i e, S => pAsgS S fun o k p v pos => isE names sc a o && isE names sc i k && isE names sc e v
 | .ex e, S => b9q S fun v pos => isE names sc e v
 | .ite c s t, S => onIf S fun e b o pos => isE names sc c e && isSs names sc s b && isSs names sc t o
 | .for1 i e b, S => pFor1 S fun x px it bd pos => a1l names sc i x && isE names sc e it && isSs names sc b bd
 | .forT l e b, S => pForT S fun ts k p it bd pos => a0s names sc l ts && isE names sc e it && isSs names sc b bd && decide (l.Nodup)
 | .while c b, S => c7d S fun e bd pos => isE names sc c e && isSs names sc b bd
 | .ret e, S => pRet S fun v pos => isE names sc e v
 | .raise c m, S => pRaise S fun x px t a b cp pos => a1i sc c x && t == Str.ofString m
 | .tryx b c i h, S => pTry S fun bd x px n hb hp pos => isSs names sc b bd && a1i sc c x && (a1l names sc i n && sc.names.lookup n == some .local) && isSs names sc h hb
noncomputable def isSs (names : List Str) (sc : Scope) : List CS -> List Stmt -> Bool
 | [], S => match S with
  | [] => true
  | _ => false
 | s :: ss, S => match S with
  | x :: xs => isS names sc s x && isSs names sc ss xs
  | _ => false
end
structure CF where
 nparams : Nat
 nvars : Nat
 body : List CS
noncomputable def isF (cf : CF) (d : DefRec) : Bool :=
 a6b d.scope && d.params.posonlyargs.isEmpty && d.params.vararg.isNone && d.params.kwonlyargs.isEmpty && d.params.kwarg.isNone && d.params.defaults.isEmpty && d.params.kw_defaults.isEmpty &&
 (let names := (d.scope.names.filter fun y => y.2 == .local || y.2 == .cell).map (·.1)
  d.params.args.length == cf.nparams && names.length == cf.nvars && decide (d.params.args.map (·.arg) = names.take cf.nparams) && decide names.Nodup &&
  (d.scope.names.all fun y => y.2 != .free && d.scope.names.lookup y.1 == some y.2) && isSs names d.scope cf.body d.body)
noncomputable def bltNames : List String := ["len", "range", "isinstance", "int", "bool", "str", "tuple", "list", "dict", "set", "sorted", "sum", "min", "all", "ValueError"]
end Mine
end
section
open PySem PyProof.Rows
namespace Mine
noncomputable def F_is_among : CF := ⟨3, 3, [.ret (.and [(.isi (.var 0) "int"), (.not (.isi (.var 0) "bool")), (.cmp2 .LtE .LtE (.var 1) (.var 0) (.var 2))])]⟩
noncomputable def F_rows_of : CF := ⟨2, 4, [.asg 2 (.int 1), .for1 3 (.prim "range" [(.var 1)]) [.asg 2 (.bin .Mult (.var 2) (.var 0))], .ret (.var 2)]⟩
noncomputable def F_number_of : CF := ⟨2, 4, [.asg 2 (.int 0), .for1 3 (.var 1) [.asg 2 (.bin .Add (.bin .Mult (.var 2) (.var 0)) (.var 3))], .ret (.var 2)]⟩
noncomputable def F_is_rule : CF := ⟨1, 2, [.ite (.or [(.not (.isi (.var 0) "tuple")), (.cmp .NotEq (.prim "len" [(.var 0)]) (.int 3))]) [.ret (.bool false)] [], .ite (.or [(.not (.call "is_among" [(.sub (.var 0) (.int 0)), (.int 2), (.gv "MOST_SIGNS")])), (.not (.call "is_among" [(.sub (.var 0) (.int 1)), (.int 1), (.gv "MOST_WIDE")]))]) [.ret (.bool false)] [], .asg 1 (.call "rows_of" [(.sub (.var 0) (.int 0)), (.sub (.var 0) (.int 1))]), .ite (.or [(.cmp .Gt (.var 1) (.gv "MOST_ROWS")), (.not (.isi (.sub (.var 0) (.int 2)) "tuple")), (.cmp .NotEq (.prim "len" [(.sub (.var 0) (.int 2))]) (.var 1))]) [.ret (.bool false)] [], .ret (.prim "all" [(.comp (.call "is_among" [(.var 2), (.int 0), (.bin .Sub (.sub (.var 0) (.int 0)) (.int 1))]) 1 true (.sub (.var 0) (.int 2)) none)])]⟩
noncomputable def F_need_rule : CF := ⟨1, 1, [.ite (.not (.call "is_rule" [(.var 0)])) [.raise "BadRule" "no rule"] []]⟩
noncomputable def F_is_piece : CF := ⟨2, 2, [.ex (.call "need_rule" [(.var 0)]), .ret (.and [(.isi (.var 1) "list"), (.prim "all" [(.comp (.call "is_among" [(.var 2), (.int 0), (.bin .Sub (.sub (.var 0) (.int 0)) (.int 1))]) 1 true (.var 1) none)])])]⟩
noncomputable def F_need_piece : CF := ⟨3, 3, [.ite (.or [(.not (.call "is_piece" [(.var 0), (.var 1)])), (.cmp .Lt (.prim "len" [(.var 1)]) (.var 2))]) [.raise "BadRow" "no piece of the rule's signs, or of too few cells"] []]⟩
noncomputable def F_sign_of : CF := ⟨2, 2, [.ret (.sub (.sub (.var 0) (.int 2)) (.call "number_of" [(.sub (.var 0) (.int 0)), (.var 1)]))]⟩
noncomputable def F_piece_on : CF := ⟨2, 2, [.ex (.call "need_rule" [(.var 0)]), .ex (.call "need_piece" [(.var 0), (.var 1), (.bin .Sub (.sub (.var 0) (.int 1)) (.int 1))]), .ret (.comp (.call "sign_of" [(.var 0), (.slice (.var 1) (some (.var 2)) (some (.bin .Add (.var 2) (.sub (.var 0) (.int 1)))))]) 1 true (.prim "range" [(.bin .Add (.bin .Sub (.prim "len" [(.var 1)]) (.sub (.var 0) (.int 1))) (.int 1))]) none)]⟩
noncomputable def F_many_ends : CF := ⟨1, 1, [.ret (.call "rows_of" [(.sub (.var 0) (.int 0)), (.bin .Sub (.sub (.var 0) (.int 1)) (.int 1))])]⟩
noncomputable def F_told_by : CF := ⟨3, 3, [.ret (.sub (.sub (.var 0) (.int 2)) (.bin .Add (.bin .Mult (.var 1) (.sub (.var 0) (.int 0))) (.var 2)))]⟩
noncomputable def F_onward : CF := ⟨3, 3, [.ret (.bin .Mod (.bin .Add (.bin .Mult (.var 1) (.sub (.var 0) (.int 0))) (.var 2)) (.call "many_ends" [(.var 0)]))]⟩
noncomputable def F_ends_behind : CF := ⟨3, 6, [.asg 3 .dct0, .for1 4 (.var 1) [.for1 5 (.prim "range" [(.sub (.var 0) (.int 0))]) [.ite (.cmp .Eq (.call "told_by" [(.var 0), (.var 4), (.var 5)]) (.var 2)) [.asgS (.var 3) (.call "onward" [(.var 0), (.var 4), (.var 5)]) (.bool true)] []]], .ret (.prim "tuple" [(.prim "sorted" [(.var 3)])])]⟩
noncomputable def F_gone_through : CF := ⟨1, 9, [.asg 1 (.prim "tuple" [(.prim "range" [(.call "many_ends" [(.var 0)])])]), .asg 2 (.dct1 (.var 1) (.bool true)), .asg 3 (.lst [(.tup [(.var 1), (.lst [])])]), .asg 4 (.int 0), .while (.cmp .Lt (.var 4) (.prim "len" [(.var 3)])) [.asgT [5, 6] (.sub (.var 3) (.var 4)), .asg 4 (.bin .Add (.var 4) (.int 1)), .for1 7 (.prim "range" [(.sub (.var 0) (.int 0))]) [.asg 8 (.call "ends_behind" [(.var 0), (.var 5), (.var 7)]), .ite (.cmp .NotIn (.var 8) (.var 2)) [.asgS (.var 2) (.var 8) (.bool true), .ex (.meth (.var 3) "append" [(.tup [(.var 8), (.bin .Add (.var 6) (.lst [(.var 7)]))])])] []]], .ret (.var 3)]⟩
noncomputable def F_missing : CF := ⟨1, 3, [.ex (.call "need_rule" [(.var 0)]), .forT [1, 2] (.call "gone_through" [(.var 0)]) [.ite (.cmp .Eq (.var 1) (.tup [])) [.ret (.var 2)] []], .ret .none]⟩
noncomputable def b2k : CF := ⟨2, 2, [.ite (.cmp .Lt (.var 1) (.prim "len" [(.var 0)])) [.ret (.sub (.var 0) (.var 1))] [], .ret (.int 0)]⟩
noncomputable def b9t : CF := ⟨2, 3, [.asg 2 (.bin .Mod (.bin .Mult (.bin .Add (.bin .Mod (.var 0) (.int 1000000007)) (.int 1)) (.int 48271)) (.int 2147483647)), .ret (.bin .FloorDiv (.bin .Mod (.bin .Mult (.var 2) (.bin .Add (.bin .Add (.int 16807) (.bin .Mult (.bin .Mult (.int 7919) (.var 1)) (.var 1))) (.bin .Mult (.int 31) (.var 1)))) (.int 2147483629)) (.int 7))]⟩
noncomputable def b6b : CF := ⟨3, 3, [.ret (.prim "tuple" [(.comp (.bin .Mod (.call "_law_mixed" [(.var 2), (.var 3)]) (.var 0)) 1 true (.prim "range" [(.var 1)]) none)])]⟩
noncomputable def b2l : CF := ⟨3, 4, [.asg 3 (.bin .FloorDiv (.var 1) (.var 0)), .ite (.cmp .Eq (.bin .Mod (.var 2) (.int 2)) (.int 0)) [.ret (.prim "tuple" [(.comp (.bin .Mod (.bin .Add (.bin .Mod (.var 4) (.var 0)) (.call "_law_mixed" [(.var 2), (.bin .FloorDiv (.var 4) (.var 0))])) (.var 0)) 1 true (.prim "range" [(.var 1)]) none)])] [], .ret (.prim "tuple" [(.comp (.bin .Mod (.bin .Add (.bin .FloorDiv (.var 4) (.var 3)) (.call "_law_mixed" [(.var 2), (.bin .Mod (.var 4) (.var 3))])) (.var 0)) 1 true (.prim "range" [(.var 1)]) none)])]⟩
noncomputable def b2m : CF := ⟨2, 5, [.asg 2 (.lst [(.bin .FloorDiv (.var 0) (.int 8)), (.bin .Mod (.bin .FloorDiv (.var 0) (.int 4)) (.int 2)), (.bin .Mod (.bin .FloorDiv (.var 0) (.int 2)) (.int 2)), (.bin .Mod (.var 0) (.int 2))]), .asg 3 (.bin .Add (.int 1) (.bin .Mod (.bin .FloorDiv (.var 1) (.int 2)) (.int 2))), .asg 4 (.bin .Add (.slice (.var 2) none (some (.var 3))) (.slice (.var 2) (some (.bin .Add (.var 3) (.int 1))) none)), .ret (.bin .Mod (.bin .Add (.sub (.var 2) (.var 3)) (.prim "int" [(.cmp .Eq (.var 4) (.sub (.lst [(.lst [(.int 1), (.int 0), (.int 1)]), (.lst [(.int 0), (.int 1), (.int 0)])]) (.bin .Mod (.var 1) (.int 2))))])) (.int 2))]⟩
noncomputable def b6c : CF := ⟨2, 5, [.asg 2 (.bin .Mod (.bin .FloorDiv (.var 1) (.int 2)) (.int 3)), .asgT [3, 4] (.sub (.lst [(.tup [(.bin .FloorDiv (.var 0) (.int 3)), (.bin .Mod (.var 0) (.int 3))]), (.tup [(.bin .Mod (.var 0) (.int 3)), (.bin .FloorDiv (.var 0) (.int 3))])]) (.bin .Mod (.var 1) (.int 2))), .ite (.and [(.cmp .Eq (.var 4) (.var 2)), (.cmp .NotEq (.var 3) (.var 2))]) [.ret (.bin .Sub (.bin .Sub (.int 3) (.var 2)) (.var 3))] [], .ret (.var 3)]⟩
noncomputable def b6d : CF := ⟨4, 6, [.asg 4 (.comp (.bin .Mod (.bin .Add (.bin .FloorDiv (.var 3) (.int 4)) (.bin .Mult (.var 6) (.sub (.lst [(.int 1), (.bin .Sub (.var 0) (.int 1))]) (.bin .Mod (.bin .FloorDiv (.var 3) (.int 64)) (.int 2))))) (.var 0)) 1 true (.prim "range" [(.var 0)]) none), .ite (.and [(.cmp .Eq (.var 0) (.int 4)), (.cmp .Eq (.var 1) (.int 2)), (.cmp .Gt (.bin .Mod (.var 3) (.int 4)) (.int 0))]) [.ret (.prim "tuple" [(.comp (.sub (.var 4) (.bin .Add (.bin .Mult (.bin .FloorDiv (.var 6) (.int 8)) (.int 2)) (.bin .Mod (.var 6) (.int 2)))) 1 true (.prim "range" [(.int 16)]) none)])] [], .ite (.and [(.cmp .Eq (.var 0) (.int 3)), (.cmp .Eq (.var 1) (.int 2)), (.cmp .Gt (.bin .Mod (.var 3) (.int 4)) (.int 0))]) [.ret (.prim "tuple" [(.comp (.sub (.var 4) (.call "_law_beside" [(.var 6), (.bin .FloorDiv (.var 3) (.int 256))])) 1 true (.prim "range" [(.int 9)]) none)])] [], .ite (.and [(.cmp .Eq (.var 0) (.int 2)), (.cmp .Eq (.var 1) (.int 4)), (.cmp .Gt (.bin .Mod (.var 3) (.int 4)) (.int 0))]) [.ret (.prim "tuple" [(.comp (.sub (.var 4) (.call "_law_between" [(.var 6), (.bin .FloorDiv (.var 3) (.int 256))])) 1 true (.prim "range" [(.int 16)]) none)])] [], .asg 5 (.sub (.lst [(.int 1), (.var 0), (.bin .Mult (.var 0) (.var 0)), (.bin .Mult (.bin .Mult (.var 0) (.var 0)) (.var 0))]) (.bin .Mod (.bin .FloorDiv (.var 3) (.int 16)) (.var 1))), .ret (.prim "tuple" [(.comp (.sub (.var 4) (.bin .Mod (.bin .FloorDiv (.var 6) (.var 5)) (.var 0))) 1 true (.prim "range" [(.var 2)]) none)])]⟩
noncomputable def c7f : CF := ⟨2, 6, [.asg 2 (.lst [(.tup [(.int 2), (.int 3), (.int 8)]), (.tup [(.int 2), (.int 2), (.int 4)]), (.tup [(.int 3), (.int 2), (.int 9)]), (.tup [(.int 4), (.int 2), (.int 16)]), (.tup [(.int 2), (.int 1), (.int 2)]), (.tup [(.int 2), (.int 4), (.int 16)]), (.tup [(.int 3), (.int 1), (.int 3)]), (.tup [(.int 4), (.int 1), (.int 4)])]), .asgT [3, 4, 5] (.sub (.var 2) (.bin .Mod (.var 0) (.int 8))), .ite (.cmp .Eq (.bin .Mod (.bin .FloorDiv (.var 0) (.int 8)) (.int 4)) (.int 1)) [.ret (.tup [(.var 3), (.var 4), (.call "_law_mending" [(.var 3), (.var 5), (.var 1)])])] [], .ite (.cmp .Gt (.bin .Mod (.bin .FloorDiv (.var 0) (.int 8)) (.int 4)) (.int 1)) [.ret (.tup [(.var 3), (.var 4), (.call "_law_turned" [(.var 3), (.var 4), (.var 5), (.var 1)])])] [], .ret (.tup [(.var 3), (.var 4), (.call "_law_random" [(.var 3), (.var 5), (.var 1)])])]⟩
end Mine
end
section
open PySem PyProof.Rows
namespace Mine
noncomputable def F_cells_of : CF := ⟨3, 5, [.asg 3 (.lst []), .for1 4 (.prim "range" [(.var 1)]) [.ex (.meth (.var 3) "insert" [(.int 0), (.bin .Mod (.var 2) (.var 0))]), .asg 2 (.bin .FloorDiv (.var 2) (.var 0))], .ret (.var 3)]⟩
noncomputable def F_pair_steps : CF := ⟨2, 5, [.asg 2 (.lst []), .for1 3 (.prim "range" [(.sub (.var 0) (.int 0))]) [.for1 4 (.prim "range" [(.sub (.var 0) (.int 0))]) [.ite (.cmp .Eq (.call "told_by" [(.var 0), (.sub (.var 1) (.int 0)), (.var 3)]) (.call "told_by" [(.var 0), (.sub (.var 1) (.int 1)), (.var 4)])) [.ex (.meth (.var 2) "append" [(.tup [(.var 3), (.var 4), (.tup [(.call "onward" [(.var 0), (.sub (.var 1) (.int 0)), (.var 3)]), (.call "onward" [(.var 0), (.sub (.var 1) (.int 1)), (.var 4)])])])])] []]], .ret (.var 2)]⟩
noncomputable def F_walked : CF := ⟨3, 12, [.asg 3 .dct0, .asg 4 (.prim "list" [(.var 1)]), .asg 5 (.int 0), .while (.cmp .Lt (.var 5) (.prim "len" [(.var 4)])) [.asgT [6, 7, 8] (.sub (.var 4) (.var 5)), .asg 5 (.bin .Add (.var 5) (.int 1)), .ite (.callv 2 [(.var 6)]) [.ret (.tup [(.var 6), (.var 7), (.var 8)])] [], .ite (.cmp .NotIn (.var 6) (.var 3)) [.asgS (.var 3) (.var 6) (.bool true), .forT [9, 10, 11] (.call "pair_steps" [(.var 0), (.var 6)]) [.ex (.meth (.var 4) "append" [(.tup [(.var 11), (.bin .Add (.var 7) (.lst [(.var 9)])), (.bin .Add (.var 8) (.lst [(.var 10)]))])])]] []], .ret .none]⟩
noncomputable def F_is_one : CF := ⟨1, 1, [.ret (.cmp .Eq (.sub (.var 0) (.int 0)) (.sub (.var 0) (.int 1)))]⟩
noncomputable def F_parted_from : CF := ⟨2, 2, [.ret (.comp (.tup [(.var 4), (.lst [(.var 2)]), (.lst [(.var 3)])]) 3 false (.call "pair_steps" [(.var 0), (.tup [(.var 1), (.var 1)])]) (some (.cmp .NotEq (.var 2) (.var 3))))]⟩
noncomputable def F_twins : CF := ⟨1, 5, [.ex (.call "need_rule" [(.var 0)]), .asg 1 .none, .for1 2 (.prim "range" [(.call "many_ends" [(.var 0)])]) [.asg 3 (.call "walked" [(.var 0), (.call "parted_from" [(.var 0), (.var 2)]), (.gv "is_one")]), .ite (.and [(.cmp .IsNot (.var 3) .none), (.or [(.cmp .Is (.var 1) .none), (.cmp .Lt (.prim "len" [(.sub (.var 3) (.int 1))]) (.prim "len" [(.sub (.sub (.var 1) (.int 1)) (.int 1))]))])]) [.asg 1 (.tup [(.var 2), (.var 3)])] []], .ite (.cmp .Is (.var 1) .none) [.ret .none] [], .asg 4 (.call "cells_of" [(.sub (.var 0) (.int 0)), (.bin .Sub (.sub (.var 0) (.int 1)) (.int 1)), (.sub (.var 1) (.int 0))]), .ret (.tup [(.bin .Add (.var 4) (.sub (.sub (.var 1) (.int 1)) (.int 1))), (.bin .Add (.var 4) (.sub (.sub (.var 1) (.int 1)) (.int 2)))])]⟩
end Mine
end
section
open PySem PyProof.Rows
namespace Mine
end Mine
end
section
open PySem PyProof.Rows
namespace Mine
noncomputable def a9m : CF := ⟨1, 1, [.ret (.sub (.lst [(.int 1), (.sub (.var 0) (.int 0)), (.bin .Mult (.sub (.var 0) (.int 0)) (.sub (.var 0) (.int 0))), (.bin .Mult (.bin .Mult (.sub (.var 0) (.int 0)) (.sub (.var 0) (.int 0))) (.sub (.var 0) (.int 0)))]) (.bin .Sub (.sub (.var 0) (.int 1)) (.int 1)))]⟩
end Mine
end
section
open PySem PyProof.Rows
namespace Mine
end Mine
end
section
open PySem PyProof.Rows
namespace Mine
end Mine
end
section
open PySem PyProof.Rows
namespace Mine
noncomputable def a7q : CF := ⟨2, 7, [.asg 2 (.lst []), .for1 3 (.prim "range" [(.sub (.var 0) (.int 0))]) [.for1 4 (.prim "range" [(.sub (.var 0) (.int 0))]) [.asg 5 (.bin .Add (.bin .Mult (.sub (.var 1) (.int 0)) (.sub (.var 0) (.int 0))) (.var 3)), .asg 6 (.bin .Add (.bin .Mult (.sub (.var 1) (.int 1)) (.sub (.var 0) (.int 0))) (.var 4)), .ite (.cmp .Eq (.sub (.sub (.var 0) (.int 2)) (.var 5)) (.sub (.sub (.var 0) (.int 2)) (.var 6))) [.ex (.meth (.var 2) "append" [(.tup [(.bin .Mod (.var 5) (.call "_law_many" [(.var 0)])), (.bin .Mod (.var 6) (.call "_law_many" [(.var 0)])), (.var 3), (.var 4)])])] []]], .ret (.var 2)]⟩
noncomputable def b0m : CF := ⟨2, 2, [.ret (.comp (.slice (.var 2) none (some (.int 2))) 1 true (.call "_law_pairs" [(.var 0), (.var 1)]) (some (.cmp .NotEq (.sub (.var 2) (.int 2)) (.sub (.var 2) (.int 3)))))]⟩
noncomputable def a6c : CF := ⟨3, 9, [.asg 3 (.prim "sorted" [(.prim "set" [(.var 1)])]), .asg 5 (.prim "dict" [(.comp (.tup [(.var 9), (.bool true)]) 1 true (.var 3) none)]), .asg 6 (.int 1), .while (.cmp .NotEq (.var 3) (.lst [])) [.asg 7 (.lst []), .for1 4 (.var 3) [.ite (.cmp .In (.var 4) (.var 2)) [.ret (.var 6)] [], .for1 8 (.call "_law_pairs" [(.var 0), (.var 4)]) [.ite (.cmp .NotIn (.slice (.var 8) none (some (.int 2))) (.var 5)) [.asgS (.var 5) (.slice (.var 8) none (some (.int 2))) (.bool true), .ex (.meth (.var 7) "append" [(.slice (.var 8) none (some (.int 2)))])] []]], .asg 3 (.var 7), .asg 6 (.bin .Add (.var 6) (.int 1))], .ret (.int 0)]⟩
noncomputable def b0n : CF := ⟨2, 3, [.ite (.not (.isi (.var 1) "list")) [.ret (.bool false)] [], .for1 2 (.var 1) [.ite (.or [(.not (.isi (.var 2) "int")), (.isi (.var 2) "bool"), (.not (.cmp2 .LtE .Lt (.int 0) (.var 2) (.sub (.var 0) (.int 0))))]) [.ret (.bool false)] []], .ret (.bool true)]⟩
noncomputable def a4q : CF := ⟨2, 5, [.ite (.or [(.not (.isi (.var 1) "tuple")), (.cmp .NotEq (.prim "len" [(.var 1)]) (.int 2))]) [.ret (.bool false)] [], .ite (.or [(.not (.call "_law_cells" [(.var 0), (.sub (.var 1) (.int 0))])), (.not (.call "_law_cells" [(.var 0), (.sub (.var 1) (.int 1))]))]) [.ret (.bool false)] [], .asgT [2, 3] (.var 1), .asg 4 (.bin .Sub (.sub (.var 0) (.int 1)) (.int 1)), .ite (.or [(.cmp .NotEq (.prim "len" [(.var 2)]) (.prim "len" [(.var 3)])), (.cmp .Eq (.var 2) (.var 3)), (.cmp .NotEq (.slice (.var 2) none (some (.var 4))) (.slice (.var 3) none (some (.var 4))))]) [.ret (.bool false)] [], .ite (.cmp .NotEq (.slice (.var 2) (some (.bin .Sub (.prim "len" [(.var 2)]) (.var 4))) none) (.slice (.var 3) (some (.bin .Sub (.prim "len" [(.var 3)]) (.var 4))) none)) [.ret (.bool false)] [], .ret (.cmp .Eq (.call "piece_on" [(.var 0), (.var 2)]) (.call "piece_on" [(.var 0), (.var 3)]))]⟩
noncomputable def F_law9 : CF := ⟨1, 9, [.asg 1 (.call "_law_rule" [(.call "_law_cell_at" [(.var 0), (.int 0)]), (.call "_law_cell_at" [(.var 0), (.int 1)])]), .asg 2 (.comp (.tup [(.var 9), (.var 9)]) 1 true (.prim "range" [(.call "_law_many" [(.var 1)])]) none), .asg 3 (.lst []), .for1 4 (.var 2) [.asg 3 (.bin .Add (.var 3) (.call "_law_parted" [(.var 1), (.var 4)]))], .asg 5 (.call "_law_steps_to" [(.var 1), (.var 3), (.var 2)]), .ite (.cmp .NotEq (.cmp .Eq (.var 5) (.int 0)) (.cmp .Is (.call "missing" [(.var 1)]) .none)) [.ret (.bool false)] [], .asg 6 .none, .for1 7 (.prim "range" [(.int 2)]) [.asg 8 (.call "twins" [(.var 1)]), .ite (.cmp .Eq (.var 5) (.int 0)) [.ite (.cmp .IsNot (.var 8) .none) [.ret (.bool false)] []] [.ite (.or [(.not (.call "_law_are_twins" [(.var 1), (.var 8)])), (.cmp .NotEq (.prim "len" [(.sub (.var 8) (.int 0))]) (.bin .Add (.bin .Sub (.sub (.var 1) (.int 1)) (.int 1)) (.var 5)))]) [.ret (.bool false)] [], .ite (.and [(.cmp .Eq (.var 7) (.int 1)), (.cmp .NotEq (.lst [(.prim "list" [(.sub (.var 8) (.int 0))]), (.prim "list" [(.sub (.var 8) (.int 1))])]) (.var 6))]) [.ret (.bool false)] [], .asg 6 (.lst [(.prim "list" [(.sub (.var 8) (.int 0))]), (.prim "list" [(.sub (.var 8) (.int 1))])]), .ex (.meth (.sub (.var 8) (.int 0)) "clear" []), .ex (.meth (.sub (.var 8) (.int 1)) "append" [(.int 0)])]], .ret (.bool true)]⟩
end Mine
end
section
open PySem PySem.W PyProof.Rows
namespace Mine
noncomputable def c7g (q : Program) (loose : List Str) : Bool := bltNames.all fun x => !startupNames.contains (Str.ofString x) && !loose.contains (Str.ofString x) && !((recsOf q).map (·.name)).contains (Str.ofString x) && !((litsOf q).map (·.1)).contains (Str.ofString x) && !((clssOf q loose).map (·.name)).contains (Str.ofString x)
noncomputable def b9u (q : Program) (l : List (String × CF)) : Bool := l.all fun p => (recsOf q).any fun d => d.name == Str.ofString p.1 && isF p.2 d
noncomputable def b4p (q : Program) (l : List (String × Int)) : Bool := l.all fun p => match valOf q (Str.ofString p.1) with | some (.int i) => i == p.2 | _ => false
end Mine
open PySem PySem.W PyProof.Rows
namespace Mine
noncomputable def defs9 : List (String × CF) := [("is_among", F_is_among), ("rows_of", F_rows_of), ("is_rule", F_is_rule), ("need_rule", F_need_rule), ("number_of", F_number_of), ("is_piece", F_is_piece), ("need_piece", F_need_piece), ("sign_of", F_sign_of), ("piece_on", F_piece_on), ("many_ends", F_many_ends), ("told_by", F_told_by), ("onward", F_onward), ("ends_behind", F_ends_behind), ("gone_through", F_gone_through), ("missing", F_missing), ("cells_of", F_cells_of), ("pair_steps", F_pair_steps), ("walked", F_walked), ("is_one", F_is_one), ("parted_from", F_parted_from), ("twins", F_twins), ("_law_cell_at", b2k), ("_law_mixed", b9t), ("_law_random", b6b), ("_law_mending", b2l), ("_law_between", b2m), ("_law_beside", b6c), ("_law_turned", b6d), ("_law_rule", c7f), ("_law_many", a9m), ("_law_pairs", a7q), ("_law_parted", b0m), ("_law_steps_to", a6c), ("_law_cells", b0n), ("_law_are_twins", a4q), ("law", F_law9)]
noncomputable def cons9 : List (String × Int) := [("MOST_SIGNS", 4), ("MOST_WIDE", 4), ("MOST_ROWS", 16)]
noncomputable def chk9 (q : Program) : Bool := c7g q (looseW q []) && b9u q defs9 && b4p q cons9
theorem keepC {A T : Prop} (main : A) (hc : T) : A := main
set_option maxRecDepth 100000 in
set_option maxHeartbeats 8000000 in
theorem head9 (H : ∀ (q : Program) (R : WRecords) (XP : (Str -> Option Value) -> Heap -> Prop) (w : World) (s₀ s₁ : Shared) (mg mb : Str -> Option Value), chk9 q = true -> Ground q [] R XP w s₀ mg mb s₁.heap -> ∀ fa : Addr, mg (Str.ofString "law") = some (.ref fa) -> s₁.gens = #[] -> ∀ (args : List WData) (vals : List Value), PySem.Challenge.rw_uf020003_09.row.toRowW.claim.pre args = true -> WellAll w.params s₁.heap vals args ->
  wpAny (model PySem.Challenge.rw_uf020003_09.row.prog w) callerA (PySem.call (.ref fa) vals) (fun v s' => GoodWG PySem.Challenge.rw_uf020003_09.row.toRowW.claim (classAt s₀.heap) (ExcName.means s₀.heap) args s₁ (.ok (.ret v)) s')
   (fun e s' => GoodWG PySem.Challenge.rw_uf020003_09.row.toRowW.claim (classAt s₀.heap) (ExcName.means s₀.heap) args s₁ (.error e) s') s₁) : PySem.Challenge.rw_uf020003_09.Holds := by
 w_on
 refine holds_law (by decide +kernel) fun said => ?_
 apply keepC
 case main =>
  o_head Hook.none
  (case hw => w_witness2)
 case hc =>
  intro w s₀ s₁ mg mb G Y fa o pm cd doc dV kV ho hd hcd hD hmg hg args vals as hpre hlay hrd hwl hlo
  exact H _ _ _ w s₀ s₁ mg mb (by decide +kernel) G fa hmg hg args vals hpre hwl
end Mine
end
section
open PySem PyProof.Rows
namespace Mine
theorem ff {P : Prop} (h : false = true) : P := Bool.noConfusion h
theorem cNS {α : Type} {x : α} {P : Prop} (h : none = some x) : P := nomatch h
theorem cGN {α : Type} {y : Option α} {x : α} {P : Prop} (k : y = none) (h : y = some x) : P := cNS (k.symm.trans h)
theorem a0l {α : Type} {x y : α} (h : some x = some y) : x = y := Option.some.inj h
theorem a2f {α β : Type} {x y : α} {z w : β} (h : some (x, z) = some (y, w)) : x = y /\ z = w := Prod.mk.inj (Option.some.inj h)
theorem a2n {α : Type} {c : Prop} [i : Decidable c] {x y : α} (h : (if c then some x else none) = some y) : c /\ x = y :=
 match i, h with
 | .isTrue hc, h => ⟨hc, Option.some.inj h⟩
 | .isFalse _, h => cNS h
theorem ite_or {α : Type} {c : Prop} [i : Decidable c] {x y z : α} (h : (if c then x else y) = z) : (c /\ x = z) ∨ (¬ c /\ y = z) :=
 match i, h with
 | .isTrue hc, h => .inl ⟨hc, h⟩
 | .isFalse hc, h => .inr ⟨hc, h⟩
theorem a0d {c : Prop} [i : Decidable c] {x : c -> Bool} (h : (if h : c then x h else false) = true) : ∃ hc : c, x hc = true :=
 match i, h with
 | .isTrue hc, h => ⟨hc, h⟩
 | .isFalse _, h => ff h
theorem a5a {E : Expr} {f : Const -> Nat -> Pos -> Bool} {P : Expr -> Prop} (h : a4p E f = true) (κ : ∀ c k p, f c k p = true -> P (.Constant c k p)) : P E :=
 Exists.elim (a0d h) fun hc h => @Expr.Constant.elim (fun E => ∀ hc : E.ctorIdx = 19, @Expr.Constant.elim (fun ζ => Bool) E hc f = true -> P E) E hc (fun c k p ζ h => κ c k p h) hc h
theorem a5b {E : Expr} {f : Const -> Nat -> Pos -> Bool} (h : a4p E f = true) : E.ctorIdx = 19 := (a0d h).1
theorem a2g {E : Expr} {f : Str -> Pos -> Bool} {P : Expr -> Prop} (h : a2l E f = true) (κ : ∀ x p, f x p = true -> P (.Name x p)) : P E :=
 Exists.elim (a0d h) fun hc h => @Expr.Name.elim (fun E => ∀ hc : E.ctorIdx = 23, @Expr.Name.elim (fun ζ => Bool) E hc f = true -> P E) E hc (fun x p ζ h => κ x p h) hc h
theorem b6e {E : Expr} {f : Str -> Pos -> Bool} (h : a2l E f = true) : E.ctorIdx = 23 := (a0d h).1
theorem b6f {E : Expr} {f : Str -> Pos -> Bool} (h : a2l E f = true) : ∃ x p, E = .Name x p /\ f x p = true := by
 apply a2g h; intro x p h
 exact ⟨x, p, rfl, h⟩
theorem c8d {E : Expr} {f : Expr -> Operator -> Expr -> Pos -> Bool} {P : Expr -> Prop} (h : c4a E f = true) (κ : ∀ l o r p, f l o r p = true -> P (.BinOp l o r p)) : P E :=
 Exists.elim (a0d h) fun hc h => @Expr.BinOp.elim (fun E => ∀ hc : E.ctorIdx = 2, @Expr.BinOp.elim (fun ζ => Bool) E hc f = true -> P E) E hc (fun l o r p ζ h => κ l o r p h) hc h
theorem c8e {E : Expr} {f : Expr -> Operator -> Expr -> Pos -> Bool} (h : c4a E f = true) : E.ctorIdx = 2 := (a0d h).1
theorem c8f {E : Expr} {f : Expr -> Operator -> Expr -> Pos -> Bool} (h : c4a E f = true) : ∃ l o r p, E = .BinOp l o r p /\ f l o r p = true := by
 apply c8d h; intro l o r p h
 exact ⟨l, o, r, p, rfl, h⟩
theorem c7h {E : Expr} {f : UnaryOp -> Expr -> Pos -> Bool} {P : Expr -> Prop} (h : onUn E f = true) (κ : ∀ o x p, f o x p = true -> P (.UnaryOp o x p)) : P E :=
 Exists.elim (a0d h) fun hc h => @Expr.UnaryOp.elim (fun E => ∀ hc : E.ctorIdx = 3, @Expr.UnaryOp.elim (fun ζ => Bool) E hc f = true -> P E) E hc (fun o x p ζ h => κ o x p h) hc h
theorem c7i {E : Expr} {f : UnaryOp -> Expr -> Pos -> Bool} (h : onUn E f = true) : E.ctorIdx = 3 := (a0d h).1
theorem b6g {E : Expr} {f : BoolOp -> List Expr -> Pos -> Bool} {P : Expr -> Prop} (h : b5y E f = true) (κ : ∀ o vs p, f o vs p = true -> P (.BoolOp o vs p)) : P E :=
 Exists.elim (a0d h) fun hc h => @Expr.BoolOp.elim (fun E => ∀ hc : E.ctorIdx = 0, @Expr.BoolOp.elim (fun ζ => Bool) E hc f = true -> P E) E hc (fun o vs p ζ h => κ o vs p h) hc h
theorem b6h {E : Expr} {f : BoolOp -> List Expr -> Pos -> Bool} (h : b5y E f = true) : E.ctorIdx = 0 := (a0d h).1
theorem a7r {E : Expr} {f : Expr -> List CmpOp -> List Expr -> Pos -> Bool} {P : Expr -> Prop} (h : a4z E f = true) (κ : ∀ l os rs p, f l os rs p = true -> P (.Compare l os rs p)) : P E :=
 Exists.elim (a0d h) fun hc h => @Expr.Compare.elim (fun E => ∀ hc : E.ctorIdx = 15, @Expr.Compare.elim (fun ζ => Bool) E hc f = true -> P E) E hc (fun l os rs p ζ h => κ l os rs p h) hc h
theorem a7s {E : Expr} {f : Expr -> List CmpOp -> List Expr -> Pos -> Bool} (h : a4z E f = true) : E.ctorIdx = 15 := (a0d h).1
theorem b9v {E : Expr} {f : Expr -> Expr -> Expr -> Pos -> Bool} (h : b9n E f = true) : E.ctorIdx = 5 := (a0d h).1
theorem a3j {E : Expr} {f : List Expr -> Nat -> Pos -> Bool} {P : Expr -> Prop} (h : a3i E f = true) (κ : ∀ vs k p, f vs k p = true -> P (.Tuple vs k p)) : P E :=
 Exists.elim (a0d h) fun hc h => @Expr.Tuple.elim (fun E => ∀ hc : E.ctorIdx = 25, @Expr.Tuple.elim (fun ζ => Bool) E hc f = true -> P E) E hc (fun vs k p ζ h => κ vs k p h) hc h
theorem b9w {E : Expr} {f : List Expr -> Nat -> Pos -> Bool} (h : a3i E f = true) : E.ctorIdx = 25 := (a0d h).1
theorem b9x {E : Expr} {f : List Expr -> Nat -> Pos -> Bool} (h : a3i E f = true) : ∃ vs k p, E = .Tuple vs k p /\ f vs k p = true := by
 apply a3j h; intro vs k p h
 exact ⟨vs, k, p, rfl, h⟩
theorem c4d {E : Expr} {f : List Expr -> Pos -> Bool} {P : Expr -> Prop} (h : b5z E f = true) (κ : ∀ vs p, f vs p = true -> P (.List vs p)) : P E :=
 Exists.elim (a0d h) fun hc h => @Expr.List.elim (fun E => ∀ hc : E.ctorIdx = 24, @Expr.List.elim (fun ζ => Bool) E hc f = true -> P E) E hc (fun vs p ζ h => κ vs p h) hc h
theorem c4e {E : Expr} {f : List Expr -> Pos -> Bool} (h : b5z E f = true) : E.ctorIdx = 24 := (a0d h).1
theorem c4f {E : Expr} {f : List Expr -> Pos -> Bool} (h : b5z E f = true) : ∃ vs p, E = .List vs p /\ f vs p = true := by
 apply c4d h; intro vs p h
 exact ⟨vs, p, rfl, h⟩
theorem b6i {E : Expr} {f : List (Option Expr) -> List Expr -> Pos -> Bool} {P : Expr -> Prop} (h : b6a E f = true) (κ : ∀ ks vs p, f ks vs p = true -> P (.Dict ks vs p)) : P E :=
 Exists.elim (a0d h) fun hc h => @Expr.Dict.elim (fun E => ∀ hc : E.ctorIdx = 6, @Expr.Dict.elim (fun ζ => Bool) E hc f = true -> P E) E hc (fun ks vs p ζ h => κ ks vs p h) hc h
theorem b6j {E : Expr} {f : List (Option Expr) -> List Expr -> Pos -> Bool} (h : b6a E f = true) : E.ctorIdx = 6 := (a0d h).1
theorem b4q {E : Expr} {f : Expr -> Expr -> Pos -> Bool} {P : Expr -> Prop} (h : b8k E f = true) (κ : ∀ v s p, f v s p = true -> P (.Subscript v s p)) : P E :=
 Exists.elim (a0d h) fun hc h => @Expr.Subscript.elim (fun E => ∀ hc : E.ctorIdx = 21, @Expr.Subscript.elim (fun ζ => Bool) E hc f = true -> P E) E hc (fun v s p ζ h => κ v s p h) hc h
theorem b9y {E : Expr} {f : Expr -> Expr -> Pos -> Bool} (h : b8k E f = true) : E.ctorIdx = 21 := (a0d h).1
theorem c8g {E : Expr} {f : Expr -> Expr -> Pos -> Bool} (h : b8k E f = true) : ∃ v s p, E = .Subscript v s p /\ f v s p = true := by
 apply b4q h; intro v s p h
 exact ⟨v, s, p, rfl, h⟩
theorem b9z {E : Expr} {f : Option Expr -> Option Expr -> Option Expr -> Pos -> Bool} {P : Expr -> Prop} (h : b9o E f = true) (κ : ∀ l u st p, f l u st p = true -> P (.Slice l u st p)) : P E :=
 Exists.elim (a0d h) fun hc h => @Expr.Slice.elim (fun E => ∀ hc : E.ctorIdx = 26, @Expr.Slice.elim (fun ζ => Bool) E hc f = true -> P E) E hc (fun l u st p ζ h => κ l u st p h) hc h
theorem b0o {E : Expr} {f : Expr -> List Expr -> List Keyword -> Pos -> Bool} {P : Expr -> Prop} (h : a9k E f = true) (κ : ∀ g args kw pos, f g args kw pos = true -> P (.Call g args kw pos)) : P E :=
 Exists.elim (a0d h) fun hc h => @Expr.Call.elim (fun E => ∀ hc : E.ctorIdx = 16, @Expr.Call.elim (fun ζ => Bool) E hc f = true -> P E) E hc (fun g args kw pos ζ h => κ g args kw pos h) hc h
theorem a5c {E : Expr} {f : Expr -> List Expr -> List Keyword -> Pos -> Bool} (h : a9k E f = true) : E.ctorIdx = 16 := (a0d h).1
theorem c4g {E : Expr} {f : Expr -> Str -> Pos -> Bool} {P : Expr -> Prop} (h : c7b E f = true) (κ : ∀ o n p, f o n p = true -> P (.Attribute o n p)) : P E :=
 Exists.elim (a0d h) fun hc h => @Expr.Attribute.elim (fun E => ∀ hc : E.ctorIdx = 20, @Expr.Attribute.elim (fun ζ => Bool) E hc f = true -> P E) E hc (fun o n p ζ h => κ o n p h) hc h
theorem c4h {E : Expr} {f : Expr -> List Comprehension -> Scope -> Pos -> Bool} {P : Expr -> Prop} (h : b9p E f = true) (κ : ∀ el gs csc pos, f el gs csc pos = true -> P (.ListComp el gs csc pos)) : P E :=
 Exists.elim (a0d h) fun hc h => @Expr.ListComp.elim (fun E => ∀ hc : E.ctorIdx = 8, @Expr.ListComp.elim (fun ζ => Bool) E hc f = true -> P E) E hc (fun el gs csc pos ζ h => κ el gs csc pos h) hc h
theorem c4i {E : Expr} {f : Expr -> List Comprehension -> Scope -> Pos -> Bool} (h : b9p E f = true) : E.ctorIdx = 8 := (a0d h).1
theorem a6d {E : Stmt} {f : List Expr -> Expr -> Pos -> Bool} {P : Stmt -> Prop} (h : a7f E f = true) (κ : ∀ ts v pos, f ts v pos = true -> P (.Assign ts v pos)) : P E :=
 Exists.elim (a0d h) fun hc h => @Stmt.Assign.elim (fun E => ∀ hc : E.ctorIdx = 5, @Stmt.Assign.elim (fun ζ => Bool) E hc f = true -> P E) E hc (fun ts v pos ζ h => κ ts v pos h) hc h
theorem c4j {E : Stmt} {f : Expr -> Pos -> Bool} {P : Stmt -> Prop} (h : b9q E f = true) (κ : ∀ v pos, f v pos = true -> P (.Expr v pos)) : P E :=
 Exists.elim (a0d h) fun hc h => @Stmt.Expr.elim (fun E => ∀ hc : E.ctorIdx = 24, @Stmt.Expr.elim (fun ζ => Bool) E hc f = true -> P E) E hc (fun v pos ζ h => κ v pos h) hc h
theorem c4k {E : Stmt} {f : Expr -> Pos -> Bool} (h : b9q E f = true) : ∃ v pos, E = .Expr v pos /\ f v pos = true := by
 apply c4j h; intro v pos h
 exact ⟨v, pos, rfl, h⟩
theorem onIf_d {E : Stmt} {f : Expr -> List Stmt -> List Stmt -> Pos -> Bool} {P : Stmt -> Prop} (h : onIf E f = true) (κ : ∀ e b o pos, f e b o pos = true -> P (.If e b o pos)) : P E :=
 Exists.elim (a0d h) fun hc h => @Stmt.If.elim (fun E => ∀ hc : E.ctorIdx = 12, @Stmt.If.elim (fun ζ => Bool) E hc f = true -> P E) E hc (fun e b o pos ζ h => κ e b o pos h) hc h
theorem onIf_t {E : Stmt} {f : Expr -> List Stmt -> List Stmt -> Pos -> Bool} (h : onIf E f = true) : ∃ e b o pos, E = .If e b o pos /\ f e b o pos = true := by
 apply onIf_d h; intro e b o pos h
 exact ⟨e, b, o, pos, rfl, h⟩
theorem c0a {E : Stmt} {f : Expr -> Expr -> List Stmt -> List Stmt -> Pos -> Bool} {P : Stmt -> Prop} (h : c8c E f = true) (κ : ∀ t it bd o pos, f t it bd o pos = true -> P (.For t it bd o pos)) : P E :=
 Exists.elim (a0d h) fun hc h => @Stmt.For.elim (fun E => ∀ hc : E.ctorIdx = 9, @Stmt.For.elim (fun ζ => Bool) E hc f = true -> P E) E hc (fun t it bd o pos ζ h => κ t it bd o pos h) hc h
theorem c0b {E : Stmt} {f : Expr -> List Stmt -> List Stmt -> Pos -> Bool} {P : Stmt -> Prop} (h : b9r E f = true) (κ : ∀ e bd o pos, f e bd o pos = true -> P (.While e bd o pos)) : P E :=
 Exists.elim (a0d h) fun hc h => @Stmt.While.elim (fun E => ∀ hc : E.ctorIdx = 11, @Stmt.While.elim (fun ζ => Bool) E hc f = true -> P E) E hc (fun e bd o pos ζ h => κ e bd o pos h) hc h
theorem c8h {E : Stmt} {f : Option Expr -> Pos -> Bool} {P : Stmt -> Prop} (h : onRet E f = true) (κ : ∀ v pos, f v pos = true -> P (.Return v pos)) : P E :=
 Exists.elim (a0d h) fun hc h => @Stmt.Return.elim (fun E => ∀ hc : E.ctorIdx = 3, @Stmt.Return.elim (fun ζ => Bool) E hc f = true -> P E) E hc (fun v pos ζ h => κ v pos h) hc h
theorem onCI_d {E : Const} {f : Int -> Bool} {P : Const -> Prop} (h : onCI E f = true) (κ : ∀ j, f j = true -> P (.int j)) : P E :=
 Exists.elim (a0d h) fun hc h => @Const.int.elim (fun E => ∀ hc : E.ctorIdx = 2, @Const.int.elim (fun ζ => Bool) E hc f = true -> P E) E hc (fun j ζ h => κ j h) hc h
theorem onCB_d {E : Const} {f : Bool -> Bool} {P : Const -> Prop} (h : onCB E f = true) (κ : ∀ j, f j = true -> P (.bool j)) : P E :=
 Exists.elim (a0d h) fun hc h => @Const.bool.elim (fun E => ∀ hc : E.ctorIdx = 1, @Const.bool.elim (fun ζ => Bool) E hc f = true -> P E) E hc (fun j ζ h => κ j h) hc h
theorem onCS_d {E : Const} {f : Str -> Bool} {P : Const -> Prop} (h : onCS E f = true) (κ : ∀ j, f j = true -> P (.str j)) : P E :=
 Exists.elim (a0d h) fun hc h => @Const.str.elim (fun E => ∀ hc : E.ctorIdx = 5, @Const.str.elim (fun ζ => Bool) E hc f = true -> P E) E hc (fun j ζ h => κ j h) hc h
theorem a1c {α : Type} {l : List α} {b : Bool} {P : List α -> Prop} (h : a1s l b = true) (k : b = true -> P []) : P l := by
 cases l with
 | nil => exact k h
 | cons a l => exact ff h
theorem a1b {α : Type} {l : List α} {f : α -> List α -> Bool} {P : List α -> Prop} (h : a1n l f = true) (k : ∀ a r, f a r = true -> P (a :: r)) : P l := by
 cases l with
 | nil => exact ff h
 | cons a l => exact k a l h
theorem c4l {α : Type} {l : Option α} {b : Bool} {P : Option α -> Prop} (h : b9s l b = true) (k : b = true -> P none) : P l := by
 cases l with
 | none => exact k h
 | some a => exact ff h
theorem b6k {α : Type} {l : Option α} {f : α -> Bool} {P : Option α -> Prop} (h : a9l l f = true) (k : ∀ a, f a = true -> P (some a)) : P l := by
 cases l with
 | none => exact ff h
 | some a => exact k a h
theorem onCN_d {o : Const} {b : Bool} {P : Const -> Prop} (h : onCN o b = true) (k : b = true -> P .none) : P o := by
 cases o with
 | none => exact k h
 | _ => exact ff h
theorem onUS_d {o : UnaryOp} {b : Bool} {P : UnaryOp -> Prop} (h : onUS o b = true) (k : b = true -> P .USub) : P o := by
 cases o with
 | USub => exact k h
 | _ => exact ff h
theorem onUN_d {o : UnaryOp} {b : Bool} {P : UnaryOp -> Prop} (h : onUN o b = true) (k : b = true -> P .Not) : P o := by
 cases o with
 | Not => exact k h
 | _ => exact ff h
theorem onBA_d {o : BoolOp} {b : Bool} {P : BoolOp -> Prop} (h : onBA o b = true) (k : b = true -> P .And) : P o := by
 cases o with
 | And => exact k h
 | _ => exact ff h
theorem onBO_d {o : BoolOp} {b : Bool} {P : BoolOp -> Prop} (h : onBO o b = true) (k : b = true -> P .Or) : P o := by
 cases o with
 | Or => exact k h
 | _ => exact ff h
theorem pInt_t {E : Expr} {f : Int -> Nat -> Pos -> Bool} (h : pInt E f = true) : ∃ j k p, E = .Constant (.int j) k p /\ f j k p = true := by
 apply a5a h; intro c k p h
 apply onCI_d h; intro j h
 exact ⟨j, k, p, rfl, h⟩
theorem c8i {E : Expr} {f : Bool -> Nat -> Pos -> Bool} (h : pBool E f = true) : ∃ j k p, E = .Constant (.bool j) k p /\ f j k p = true := by
 apply a5a h; intro c k p h
 apply onCB_d h; intro j h
 exact ⟨j, k, p, rfl, h⟩
theorem pStr_t {E : Expr} {f : Str -> Nat -> Pos -> Bool} (h : pStr E f = true) : ∃ j k p, E = .Constant (.str j) k p /\ f j k p = true := by
 apply a5a h; intro c k p h
 apply onCS_d h; intro j h
 exact ⟨j, k, p, rfl, h⟩
theorem c8j {E : Expr} {f : Nat -> Pos -> Bool} (h : pNone E f = true) : ∃ k p, E = .Constant .none k p /\ f k p = true := by
 apply a5a h; intro c k p h
 apply onCN_d h; intro h
 exact ⟨k, p, rfl, h⟩
theorem pNeg_t {E : Expr} {f : Expr -> Pos -> Bool} (h : pNeg E f = true) : ∃ x p, E = .UnaryOp .USub x p /\ f x p = true := by
 apply c7h h; intro o x p h
 apply onUS_d h; intro h
 exact ⟨x, p, rfl, h⟩
theorem pNot_t {E : Expr} {f : Expr -> Pos -> Bool} (h : pNot E f = true) : ∃ x p, E = .UnaryOp .Not x p /\ f x p = true := by
 apply c7h h; intro o x p h
 apply onUN_d h; intro h
 exact ⟨x, p, rfl, h⟩
theorem pAnd_t {E : Expr} {f : List Expr -> Pos -> Bool} (h : pAnd E f = true) : ∃ vs p, E = .BoolOp .And vs p /\ f vs p = true := by
 apply b6g h; intro o vs p h
 apply onBA_d h; intro h
 exact ⟨vs, p, rfl, h⟩
theorem pOr_t {E : Expr} {f : List Expr -> Pos -> Bool} (h : pOr E f = true) : ∃ vs p, E = .BoolOp .Or vs p /\ f vs p = true := by
 apply b6g h; intro o vs p h
 apply onBO_d h; intro h
 exact ⟨vs, p, rfl, h⟩
theorem pCmp_t {E : Expr} {f : Expr -> CmpOp -> Expr -> Pos -> Bool} (h : pCmp E f = true) : ∃ l o r p, E = .Compare l [o] [r] p /\ f l o r p = true := by
 apply a7r h; intro l os rs p h
 apply a1b h; intro o os h
 apply a1c h; intro h
 apply a1b h; intro r rs h
 apply a1c h; intro h
 exact ⟨l, o, r, p, rfl, h⟩
theorem c8k {E : Expr} {f : Expr -> CmpOp -> CmpOp -> Expr -> Expr -> Pos -> Bool} (h : pCmp2 E f = true) : ∃ l o o' r r' p, E = .Compare l [o, o'] [r, r'] p /\ f l o o' r r' p = true := by
 apply a7r h; intro l os rs p h
 apply a1b h; intro o os h
 apply a1b h; intro o' os h
 apply a1c h; intro h
 apply a1b h; intro r rs h
 apply a1b h; intro r' rs h
 apply a1c h; intro h
 exact ⟨l, o, o', r, r', p, rfl, h⟩
theorem c8l {E : Expr} {f : Pos -> Bool} (h : pDct0 E f = true) : ∃ p, E = .Dict [] [] p /\ f p = true := by
 apply b6i h; intro ks vs p h
 apply a1c h; intro h
 apply a1c h; intro h
 exact ⟨p, rfl, h⟩
theorem c8m {E : Expr} {f : Expr -> Expr -> Pos -> Bool} (h : pDct1 E f = true) : ∃ a b p, E = .Dict [some a] [b] p /\ f a b p = true := by
 apply b6i h; intro ks vs p h
 apply a1b h; intro a ks h
 apply b6k h; intro a h
 apply a1c h; intro h
 apply a1b h; intro b vs h
 apply a1c h; intro h
 exact ⟨a, b, p, rfl, h⟩
theorem c4m {E : Expr} {f : Expr -> Option Expr -> Option Expr -> Pos -> Pos -> Bool} (h : c7c E f = true) : ∃ v l u sp p, E = .Subscript v (.Slice l u none sp) p /\ f v l u sp p = true := by
 apply b4q h; intro v s p h
 apply b9z h; intro l u st sp h
 apply c4l h; intro h
 exact ⟨v, l, u, sp, p, rfl, h⟩
theorem b4r {E : Expr} {f : Str -> Pos -> List Expr -> Pos -> Bool} (h : c4b E f = true) : ∃ x px args pos, E = .Call (.Name x px) args [] pos /\ f x px args pos = true := by
 apply b0o h; intro fn args kw pos h
 apply a2g h; intro x px h
 apply a1c h; intro h
 exact ⟨x, px, args, pos, rfl, h⟩
theorem pIsi_t {E : Expr} {f : Str -> Pos -> Expr -> Str -> Pos -> Pos -> Bool} (h : pIsi E f = true) : ∃ x px v y py pos, E = .Call (.Name x px) [v, .Name y py] [] pos /\ f x px v y py pos = true := by
 apply b0o h; intro fn args kw pos h
 apply a2g h; intro x px h
 apply a1b h; intro v args h
 apply a1b h; intro w args h
 apply a2g h; intro y py h
 apply a1c h; intro h
 apply a1c h; intro h
 exact ⟨x, px, v, y, py, pos, rfl, h⟩
theorem c8n {E : Expr} {f : Expr -> Str -> Pos -> List Expr -> Pos -> Bool} (h : pMeth E f = true) : ∃ o n ap args pos, E = .Call (.Attribute o n ap) args [] pos /\ f o n ap args pos = true := by
 apply b0o h; intro fn args kw pos h
 apply c4g h; intro o n ap h
 apply a1c h; intro h
 exact ⟨o, n, ap, args, pos, rfl, h⟩
theorem pAsg_t {E : Stmt} {f : Str -> Pos -> Expr -> Pos -> Bool} (h : pAsg E f = true) : ∃ x px v pos, E = .Assign [.Name x px] v pos /\ f x px v pos = true := by
 apply a6d h; intro ts v pos h
 apply a1b h; intro t tr h
 apply a2g h; intro x px h
 apply a1c h; intro h
 exact ⟨x, px, v, pos, rfl, h⟩
theorem c8o {E : Stmt} {f : List Expr -> Nat -> Pos -> Expr -> Pos -> Bool} (h : pAsgT E f = true) : ∃ ts k p v pos, E = .Assign [.Tuple ts k p] v pos /\ f ts k p v pos = true := by
 apply a6d h; intro tts v pos h
 apply a1b h; intro t tr h
 apply a3j h; intro ts k p h
 apply a1c h; intro h
 exact ⟨ts, k, p, v, pos, rfl, h⟩
theorem c8p {E : Stmt} {f : Expr -> Expr -> Pos -> Expr -> Pos -> Bool} (h : pAsgS E f = true) : ∃ o k p v pos, E = .Assign [.Subscript o k p] v pos /\ f o k p v pos = true := by
 apply a6d h; intro tts v pos h
 apply a1b h; intro t tr h
 apply b4q h; intro o k p h
 apply a1c h; intro h
 exact ⟨o, k, p, v, pos, rfl, h⟩
theorem pRet_t {E : Stmt} {f : Expr -> Pos -> Bool} (h : pRet E f = true) : ∃ v pos, E = .Return (some v) pos /\ f v pos = true := by
 apply c8h h; intro v pos h
 apply b6k h; intro v h
 exact ⟨v, pos, rfl, h⟩
theorem c4n {E : Stmt} {f : Expr -> List Stmt -> Pos -> Bool} (h : c7d E f = true) : ∃ e bd pos, E = .While e bd [] pos /\ f e bd pos = true := by
 apply c0b h; intro e bd o pos h
 apply a1c h; intro h
 exact ⟨e, bd, pos, rfl, h⟩
theorem c8q {E : Stmt} {f : Str -> Pos -> Expr -> List Stmt -> Pos -> Bool} (h : pFor1 E f = true) : ∃ x px it bd pos, E = .For (.Name x px) it bd [] pos /\ f x px it bd pos = true := by
 apply c0a h; intro t it bd o pos h
 apply a2g h; intro x px h
 apply a1c h; intro h
 exact ⟨x, px, it, bd, pos, rfl, h⟩
theorem c8r {E : Stmt} {f : List Expr -> Nat -> Pos -> Expr -> List Stmt -> Pos -> Bool} (h : pForT E f = true) : ∃ ts k p it bd pos, E = .For (.Tuple ts k p) it bd [] pos /\ f ts k p it bd pos = true := by
 apply c0a h; intro t it bd o pos h
 apply a3j h; intro ts k p h
 apply a1c h; intro h
 exact ⟨ts, k, p, it, bd, pos, rfl, h⟩
theorem pLC_t {E : Expr} {f : Expr -> Expr -> Expr -> List Expr -> Scope -> Pos -> Bool} (h : pLC E f = true) : ∃ el tg it ifs csc pos, E = .ListComp el [⟨tg, it, ifs, 0⟩] csc pos /\ f el tg it ifs csc pos = true := by
 apply c4h h; intro el gs csc pos h
 apply a1b h; intro g gs h
 apply a1c h; intro h
 cases g with
 | mk tg it ifs n =>
  have h1 := Bool.and_eq_true_iff.mp h
  obtain rfl := beq_iff_eq.mp h1.1
  exact ⟨el, tg, it, ifs, csc, pos, rfl, h1.2⟩
section
variable {names : List Str} {sc : Scope} {E : Expr} {S : Stmt}
theorem c8s {i : Int} (h : isE names sc (.int i) E = true) : ∃ j a b, E = .Constant (.int j) a b /\ (i == j) = true := pInt_t (f := fun j k p => i == j) h
theorem c4o {i : Bool} (h : isE names sc (.bool i) E = true) : ∃ j a b, E = .Constant (.bool j) a b /\ (i == j) = true := c8i (f := fun j k p => i == j) h
theorem c4p (h : isE names sc .none E = true) : ∃ a b, E = .Constant .none a b /\ true = true := c8j (f := fun k p => true) h
theorem c8t {i : String} (h : isE names sc (.str i) E = true) : ∃ j a b, E = .Constant (.str j) a b /\ (j == Str.ofString i) = true := pStr_t (f := fun j k p => j == Str.ofString i) h
theorem b4s {i : Nat} (h : isE names sc (.var i) E = true) : ∃ x p, E = .Name x p /\ b2j names sc i x = true := b6f (f := fun x p => b2j names sc i x) h
theorem c7j {f : String} (h : isE names sc (.gv f) E = true) : ∃ x p, E = .Name x p /\ a1i sc f x = true := b6f (f := fun x p => a1i sc f x) h
theorem c8u {op : Operator} {a b : CE} (h : isE names sc (.bin op a b) E = true) : ∃ l o r p, E = .BinOp l o r p /\ (op == o && isE names sc a l && isE names sc b r) = true := c8f (f := fun l o r p => op == o && isE names sc a l && isE names sc b r) h
theorem c8v {a : CE} (h : isE names sc (.neg a) E = true) : ∃ x p, E = .UnaryOp .USub x p /\ isE names sc a x = true := pNeg_t (f := fun x p => isE names sc a x) h
theorem c0c {a : CE} (h : isE names sc (.not a) E = true) : ∃ x p, E = .UnaryOp .Not x p /\ isE names sc a x = true := pNot_t (f := fun x p => isE names sc a x) h
theorem b0p {l : List CE} (h : isE names sc (.and l) E = true) : ∃ vs p, E = .BoolOp .And vs p /\ isEs names sc l vs = true := pAnd_t (f := fun vs p => isEs names sc l vs) h
theorem b6l {l : List CE} (h : isE names sc (.or l) E = true) : ∃ vs p, E = .BoolOp .Or vs p /\ isEs names sc l vs = true := pOr_t (f := fun vs p => isEs names sc l vs) h
theorem c0d {op : CmpOp} {a b : CE} (h : isE names sc (.cmp op a b) E = true) : ∃ l o r p, E = .Compare l [o] [r] p /\ (op == o && isE names sc a l && isE names sc b r && !behindInMarks o r) = true := pCmp_t (f := fun l o r p => op == o && isE names sc a l && isE names sc b r && !behindInMarks o r) h
theorem b6m {op1 op2 : CmpOp} {a b c : CE} (h : isE names sc (.cmp2 op1 op2 a b c) E = true) : ∃ l o o' r r' p, E = .Compare l [o, o'] [r, r'] p /\ (op1 == o && op2 == o' && isE names sc a l && isE names sc b r && isE names sc c r' && !behindInMarks o r && !behindInMarks o' r') = true := c8k (f := fun l o o' r r' p => op1 == o && op2 == o' && isE names sc a l && isE names sc b r && isE names sc c r' && !behindInMarks o r && !behindInMarks o' r') h
theorem c8w {l : List CE} (h : isE names sc (.tup l) E = true) : ∃ vs k p, E = .Tuple vs k p /\ isEs names sc l vs = true := b9x (f := fun vs k p => isEs names sc l vs) h
theorem c0e {l : List CE} (h : isE names sc (.lst l) E = true) : ∃ vs p, E = .List vs p /\ isEs names sc l vs = true := c4f (f := fun vs p => isEs names sc l vs) h
theorem c4q (h : isE names sc .dct0 E = true) : ∃ p, E = .Dict [] [] p /\ true = true := c8l (f := fun p => true) h
theorem c4r {k v : CE} (h : isE names sc (.dct1 k v) E = true) : ∃ a b p, E = .Dict [some a] [b] p /\ (isE names sc k a && isE names sc v b) = true := c8m (f := fun a b p => isE names sc k a && isE names sc v b) h
theorem b4t {a i : CE} (h : isE names sc (.sub a i) E = true) : ∃ v s p, E = .Subscript v s p /\ (isE names sc a v && isE names sc i s) = true := c8g (f := fun v s p => isE names sc a v && isE names sc i s) h
theorem b2n {a : CE} {lo hi : Option CE} (h : isE names sc (.slice a lo hi) E = true) : ∃ v l u sp p, E = .Subscript v (.Slice l u none sp) p /\ (isE names sc a v && isEo names sc lo l && isEo names sc hi u) = true := c4m (f := fun v l u sp p => isE names sc a v && isEo names sc lo l && isEo names sc hi u) h
theorem b6n {f : String} {l : List CE} (h : isE names sc (.call f l) E = true) : ∃ x px args pos, E = .Call (.Name x px) args [] pos /\ (a1i sc f x && isEs names sc l args && decide (l.length < 15)) = true := b4r (f := fun x px args pos => a1i sc f x && isEs names sc l args && decide (l.length < 15)) h
theorem c0f {i : Nat} {l : List CE} (h : isE names sc (.callv i l) E = true) : ∃ x px args pos, E = .Call (.Name x px) args [] pos /\ (b2j names sc i x && isEs names sc l args && decide (l.length < 15)) = true := b4r (f := fun x px args pos => b2j names sc i x && isEs names sc l args && decide (l.length < 15)) h
theorem a2h {f : String} {l : List CE} (h : isE names sc (.prim f l) E = true) : ∃ x px args pos, E = .Call (.Name x px) args [] pos /\ (a1i sc f x && isEs names sc l args && decide (l.length < 15)) = true := b4r (f := fun x px args pos => a1i sc f x && isEs names sc l args && decide (l.length < 15)) h
theorem c8x {a : CE} {c : String} (h : isE names sc (.isi a c) E = true) : ∃ x px v y py pos, E = .Call (.Name x px) [v, .Name y py] [] pos /\ (a1i sc "isinstance" x && isE names sc a v && a1i sc c y) = true := pIsi_t (f := fun x px v y py pos => a1i sc "isinstance" x && isE names sc a v && a1i sc c y) h
theorem a7g {a : CE} {m : String} {l : List CE} (h : isE names sc (.meth a m l) E = true) : ∃ o n ap args pos, E = .Call (.Attribute o n ap) args [] pos /\ (isE names sc a o && n == Str.ofString m && isEs names sc l args && decide (l.length < 15) && ap.endLine == pos.line) = true := c8n (f := fun o n ap args pos => isE names sc a o && n == Str.ofString m && isEs names sc l args && decide (l.length < 15) && ap.endLine == pos.line) h
theorem c4s {elt iter : CE} {kk : Nat} {one : Bool} {cond : Option CE} (h : isE names sc (.comp elt kk one iter cond) E = true) : ∃ el tg it ifs csc pos, E = .ListComp el [⟨tg, it, ifs, 0⟩] csc pos /\ (c4c names sc csc one kk tg && isE names sc iter it && isE (names ++ a1o tg) csc elt el && isEc (names ++ a1o tg) csc cond ifs) = true :=
 pLC_t (f := fun el tg it ifs csc pos => c4c names sc csc one kk tg && isE names sc iter it && isE (names ++ a1o tg) csc elt el && isEc (names ++ a1o tg) csc cond ifs) h
theorem c0g {Es : List Expr} (h : isEc names sc none Es = true) : Es = [] /\ true = true := by
 cases Es with
 | nil => exact ⟨rfl, h⟩
 | cons _ _ => exact ff h
theorem c0h {e : CE} {Es : List Expr} (h : isEc names sc (some e) Es = true) : ∃ x, Es = [x] /\ isE names sc e x = true := by
 cases Es with
 | nil => exact ff h
 | cons x xs => cases xs with
  | nil => exact ⟨x, rfl, h⟩
  | cons _ _ => exact ff h
theorem a0n {Es : List Expr} (h : isEs names sc [] Es = true) : Es = [] /\ true = true := by
 cases Es with
 | nil => exact ⟨rfl, h⟩
 | cons _ _ => exact ff h
theorem a0i {e : CE} {es : List CE} {Es : List Expr} (h : isEs names sc (e :: es) Es = true) : ∃ x xs, Es = x :: xs /\ (isE names sc e x && isEs names sc es xs) = true := by
 cases Es with
 | nil => exact ff h
 | cons x xs => exact ⟨x, xs, rfl, h⟩
theorem b2o {Eo : Option Expr} (h : isEo names sc none Eo = true) : Eo = none /\ true = true := by
 cases Eo with
 | none => exact ⟨rfl, h⟩
 | some _ => exact ff h
theorem b2p {e : CE} {Eo : Option Expr} (h : isEo names sc (some e) Eo = true) : ∃ x, Eo = some x /\ isE names sc e x = true := by
 cases Eo with
 | none => exact ff h
 | some x => exact ⟨x, rfl, h⟩
theorem b6o {Ss : List Stmt} (h : isSs names sc [] Ss = true) : Ss = [] /\ true = true := by
 cases Ss with
 | nil => exact ⟨rfl, h⟩
 | cons _ _ => exact ff h
theorem b2q {e : CS} {es : List CS} {Es : List Stmt} (h : isSs names sc (e :: es) Es = true) : ∃ x xs, Es = x :: xs /\ (isS names sc e x && isSs names sc es xs) = true := by
 cases Es with
 | nil => exact ff h
 | cons x xs => exact ⟨x, xs, rfl, h⟩
theorem c0i {i : Nat} {e : CE} (h : isS names sc (.asg i e) S = true) : ∃ x px v pos, S = .Assign [.Name x px] v pos /\ (a1l names sc i x && isE names sc e v) = true := pAsg_t (f := fun x px v pos => a1l names sc i x && isE names sc e v) h
theorem c4t {l : List Nat} {e : CE} (h : isS names sc (.asgT l e) S = true) : ∃ ts k p v pos, S = .Assign [.Tuple ts k p] v pos /\ (a0s names sc l ts && isE names sc e v && decide (l.Nodup)) = true := c8o (f := fun ts k p v pos => a0s names sc l ts && isE names sc e v && decide (l.Nodup)) h
theorem c4u {a i e : CE} (h : isS names sc (.asgS a i e) S = true) : ∃ o k p v pos, S = .Assign [.Subscript o k p] v pos /\ (isE names sc a o && isE names sc i k && isE names sc e v) = true := c8p (f := fun o k p v pos => isE names sc a o && isE names sc i k && isE names sc e v) h
theorem inv_ex {e : CE} (h : isS names sc (.ex e) S = true) : ∃ v pos, S = .Expr v pos /\ isE names sc e v = true := c4k (f := fun v pos => isE names sc e v) h
theorem inv_if {c : CE} {s t : List CS} (h : isS names sc (.ite c s t) S = true) : ∃ e b o pos, S = .If e b o pos /\ (isE names sc c e && isSs names sc s b && isSs names sc t o) = true := onIf_t (f := fun e b o pos => isE names sc c e && isSs names sc s b && isSs names sc t o) h
theorem c4v {i : Nat} {e : CE} {b : List CS} (h : isS names sc (.for1 i e b) S = true) : ∃ x px it bd pos, S = .For (.Name x px) it bd [] pos /\ (a1l names sc i x && isE names sc e it && isSs names sc b bd) = true := c8q (f := fun x px it bd pos => a1l names sc i x && isE names sc e it && isSs names sc b bd) h
theorem c4w {l : List Nat} {e : CE} {b : List CS} (h : isS names sc (.forT l e b) S = true) : ∃ ts k p it bd pos, S = .For (.Tuple ts k p) it bd [] pos /\ (a0s names sc l ts && isE names sc e it && isSs names sc b bd && decide (l.Nodup)) = true := c8r (f := fun ts k p it bd pos => a0s names sc l ts && isE names sc e it && isSs names sc b bd && decide (l.Nodup)) h
theorem c0j {c : CE} {b : List CS} (h : isS names sc (.while c b) S = true) : ∃ e bd pos, S = .While e bd [] pos /\ (isE names sc c e && isSs names sc b bd) = true := c4n (f := fun e bd pos => isE names sc c e && isSs names sc b bd) h
theorem c8y {e : CE} (h : isS names sc (.ret e) S = true) : ∃ v pos, S = .Return (some v) pos /\ isE names sc e v = true := pRet_t (f := fun v pos => isE names sc e v) h
noncomputable def ixOf : CE -> Nat
 | .int _ => 19
 | .bool _ => 19
 | .none => 19
 | .str _ => 19
 | .var _ => 23
 | .gv _ => 23
 | .bin _ _ _ => 2
 | .neg _ => 3
 | .not _ => 3
 | .and _ => 0
 | .or _ => 0
 | .cmp _ _ _ => 15
 | .cmp2 _ _ _ _ _ => 15
 | .ite _ _ _ => 5
 | .tup _ => 25
 | .lst _ => 24
 | .dct0 => 6
 | .dct1 _ _ => 6
 | .sub _ _ => 21
 | .slice _ _ _ => 21
 | .call _ _ => 16
 | .callv _ _ => 16
 | .prim _ _ => 16
 | .isi _ _ => 16
 | .meth _ _ _ => 16
 | .comp _ _ _ _ _ => 8
 | .lam _ _ => 100
theorem c4x {e : CE} (h : isE names sc e E = true) : E.ctorIdx = ixOf e := by
 cases e with
 | int a => exact a5b (E := E) h
 | bool a => exact a5b (E := E) h
 | none => exact a5b (E := E) h
 | str a => exact a5b (E := E) h
 | var a => exact b6e (E := E) h
 | gv a => exact b6e (E := E) h
 | bin a b c => exact c8e (E := E) h
 | neg a => exact c7i (E := E) h
 | not a => exact c7i (E := E) h
 | and a => exact b6h (E := E) h
 | or a => exact b6h (E := E) h
 | cmp a b c => exact a7s (E := E) h
 | cmp2 a b c d e => exact a7s (E := E) h
 | ite a b c => exact b9v (E := E) h
 | tup a => exact b9w (E := E) h
 | lst a => exact c4e (E := E) h
 | dct0 => exact b6j (E := E) h
 | dct1 a b => exact b6j (E := E) h
 | sub a b => exact b9y (E := E) h
 | slice a b c => exact b9y (E := E) h
 | call a b => exact a5c (E := E) h
 | callv a b => exact a5c (E := E) h
 | prim a b => exact a5c (E := E) h
 | isi a b => exact a5c (E := E) h
 | meth a b c => exact a5c (E := E) h
 | comp a b c d e => exact c4i (E := E) h
 | lam a b => exact ff h
theorem ix_no (e : CE) : [22, 7, 26, 9, 10].contains (ixOf e) = false := by cases e <;> rfl
theorem b2r {e : CE} (h : isE names sc e E = true) (hn : [22, 7, 26, 9, 10].contains E.ctorIdx = true) {P : Prop} : P := by
 rw [c4x h, ix_no] at hn
 exact ff hn
end
end Mine
end
section
open PySem PyProof.Rows
namespace Mine
noncomputable def LO (items : List Value) (n : Nat) : Obj := { cls := .type "list", data := .seq items.toArray n }
noncomputable def TO (items : List Value) (n : Nat) : Obj := { cls := .type "tuple", data := .seq items.toArray n }
noncomputable def DO (es : List DictEntry) (n : Nat) : Obj := { cls := .type "dict", data := .dict es.toArray n }
noncomputable def tkHash (ks : List Int) : Int := reduceHash (Builtin.Tuple.tupleHashOf (ks.map hashInt))
set_option tactic.hygienic true in
mutual
inductive DRel (gl : Str -> Option Value) (h : Heap) (Λ : Addr -> Prop) : Value -> D -> Prop
 | none : DRel gl h Λ .none .none
 | bool (b : Bool) : DRel gl h Λ (.bool b) (.bool b)
 | int (i : Int) (t : Tok) : DRel gl h Λ (.int i t) (.int i)
 | str (s : Str) (t : Tok) : DRel gl h Λ (.str s t) (.str s)
 | tup {a : Addr} {vs : List Value} {n : Nat} {l : List D} : h.get? a = some (TO vs n) -> DRels gl h Λ vs l -> DRel gl h Λ (.ref a) (.tup l)
 | lst {a : Addr} {vs : List Value} {n : Nat} {l : List D} : h.get? a = some (LO vs n) -> ¬ Λ a -> DRels gl h Λ vs l -> DRel gl h Λ (.ref a) (.lst l)
 | dI {a : Addr} {es : List DictEntry} {n : Nat} {l : List (Int × D)} : h.get? a = some (DO es n) -> ¬ Λ a -> ERelI gl h Λ es l -> (l.map (·.1)).Nodup /\ a ≠ sysModules -> DRel gl h Λ (.ref a) (.dI l)
 | dT {a : Addr} {es : List DictEntry} {n : Nat} {l : List (List Int × D)} : h.get? a = some (DO es n) -> ¬ Λ a -> ERelT gl h Λ es l -> (l.map (·.1)).Nodup /\ a ≠ sysModules -> DRel gl h Λ (.ref a) (.dT l)
 | fn {f : String} {v : Value} : gl (Str.ofString f) = some v -> DRel gl h Λ v (.fn f)
inductive DRels (gl : Str -> Option Value) (h : Heap) (Λ : Addr -> Prop) : List Value -> List D -> Prop
 | nil : DRels gl h Λ [] []
 | cons {v : Value} {x : D} {vs : List Value} {l : List D} : DRel gl h Λ v x -> DRels gl h Λ vs l -> DRels gl h Λ (v :: vs) (x :: l)
inductive ERelI (gl : Str -> Option Value) (h : Heap) (Λ : Addr -> Prop) : List DictEntry -> List (Int × D) -> Prop
 | nil : ERelI gl h Λ [] []
 | cons {k : Int} {t : Tok} {v : Value} {x : D} {es : List DictEntry} {l : List (Int × D)} : DRel gl h Λ v x -> ERelI gl h Λ es l -> ERelI gl h Λ (⟨hashInt k, .int k t, v⟩ :: es) ((k, x) :: l)
inductive ERelT (gl : Str -> Option Value) (h : Heap) (Λ : Addr -> Prop) : List DictEntry -> List (List Int × D) -> Prop
 | nil : ERelT gl h Λ [] []
 | cons {ks : List Int} {a : Addr} {vs : List Value} {n : Nat} {v : Value} {x : D} {es : List DictEntry} {l : List (List Int × D)} :
   h.get? a = some (TO vs n) -> IntsAre vs ks -> DRel gl h Λ v x -> ERelT gl h Λ es l -> ERelT gl h Λ (⟨tkHash ks, .ref a, v⟩ :: es) ((ks, x) :: l)
end
noncomputable def a6e (o : Obj) : Prop := (∃ vs n, o = LO vs n) ∨ ∃ es n, o = DO es n
theorem b0q {vs : List Value} {n : Nat} : a6e (LO vs n) := .inl ⟨_, _, rfl⟩
theorem a4d {es : List DictEntry} {n : Nat} : a6e (DO es n) := .inr ⟨_, _, rfl⟩
structure Keep (Λ Λ' : Addr -> Prop) (h h' : Heap) : Prop where
 tups : ∀ a vs n, h.get? a = some (TO vs n) -> h'.get? a = some (TO vs n)
 objs : ∀ a o, ¬ Λ a -> a6e o -> h.get? a = some o -> h'.get? a = some o
 lam : ∀ a o, ¬ Λ a -> a6e o -> h.get? a = some o -> ¬ Λ' a
theorem Keep.refl {Λ : Addr -> Prop} {h : Heap} : Keep Λ Λ h h := ⟨fun ζ ζ ζ e => e, fun ζ ζ ζ ζ e => e, fun ζ ζ n ζ ζ => n⟩
theorem Keep.trans {Λ Λ' Λ'' : Addr -> Prop} {h h' h'' : Heap} (x : Keep Λ Λ' h h') (y : Keep Λ' Λ'' h' h'') : Keep Λ Λ'' h h'' :=
 ⟨fun a vs n e => y.tups a vs n (x.tups a vs n e), fun a o n c e => y.objs a o (x.lam a o n c e) c (x.objs a o n c e), fun a o n c e => y.lam a o (x.lam a o n c e) c (x.objs a o n c e)⟩
theorem Keep.weak {Λ Λ' : Addr -> Prop} {h : Heap} (w : ∀ a, Λ' a -> Λ a) : Keep Λ Λ' h h := ⟨fun ζ ζ ζ e => e, fun ζ ζ ζ ζ e => e, fun a ζ n ζ ζ hl => n (w a hl)⟩
theorem Keep.of_keeps {Λ : Addr -> Prop} {h h' : Heap} (k : ∀ a o, h.get? a = some o -> h'.get? a = some o) : Keep Λ Λ h h' :=
 ⟨fun a vs n e => k a _ e, fun a o ζ ζ e => k a o e, fun ζ ζ n ζ ζ => n⟩
section
variable {gl : Str -> Option Value} {Λ Λ' : Addr -> Prop} {h h' : Heap}
theorem DRel.keep (K : Keep Λ Λ' h h') {v : Value} {x : D} (r : DRel gl h Λ v x) : DRel gl h' Λ' v x :=
 DRel.rec (motive_1 := fun v x ζ => DRel gl h' Λ' v x) (motive_2 := fun vs l ζ => DRels gl h' Λ' vs l) (motive_3 := fun es l ζ => ERelI gl h' Λ' es l) (motive_4 := fun es l ζ => ERelT gl h' Λ' es l)
  .none .bool .int .str (fun e ζ ih => .tup (K.tups _ _ _ e) ih) (fun e n ζ ih => .lst (K.objs _ _ n b0q e) (K.lam _ _ n b0q e) ih) (fun e n ζ d ih => .dI (K.objs _ _ n a4d e) (K.lam _ _ n a4d e) ih d)
  (fun e n ζ d ih => .dT (K.objs _ _ n a4d e) (K.lam _ _ n a4d e) ih d) .fn .nil (fun ζ ζ a b => .cons a b) .nil (fun ζ ζ a b => .cons a b) .nil (fun e i ζ ζ a b => .cons (K.tups _ _ _ e) i a b) r
theorem DRels.keep (K : Keep Λ Λ' h h') {vs : List Value} {l : List D} (r : DRels gl h Λ vs l) : DRels gl h' Λ' vs l :=
 DRels.rec (motive_1 := fun v x ζ => DRel gl h' Λ' v x) (motive_2 := fun vs l ζ => DRels gl h' Λ' vs l) (motive_3 := fun es l ζ => ERelI gl h' Λ' es l) (motive_4 := fun es l ζ => ERelT gl h' Λ' es l)
  .none .bool .int .str (fun e ζ ih => .tup (K.tups _ _ _ e) ih) (fun e n ζ ih => .lst (K.objs _ _ n b0q e) (K.lam _ _ n b0q e) ih) (fun e n ζ d ih => .dI (K.objs _ _ n a4d e) (K.lam _ _ n a4d e) ih d)
  (fun e n ζ d ih => .dT (K.objs _ _ n a4d e) (K.lam _ _ n a4d e) ih d) .fn .nil (fun ζ ζ a b => .cons a b) .nil (fun ζ ζ a b => .cons a b) .nil (fun e i ζ ζ a b => .cons (K.tups _ _ _ e) i a b) r
theorem ERelI.keep (K : Keep Λ Λ' h h') {es : List DictEntry} {l : List (Int × D)} (r : ERelI gl h Λ es l) : ERelI gl h' Λ' es l :=
 ERelI.rec (motive_1 := fun v x ζ => DRel gl h' Λ' v x) (motive_2 := fun vs l ζ => DRels gl h' Λ' vs l) (motive_3 := fun es l ζ => ERelI gl h' Λ' es l) (motive_4 := fun es l ζ => ERelT gl h' Λ' es l)
  .none .bool .int .str (fun e ζ ih => .tup (K.tups _ _ _ e) ih) (fun e n ζ ih => .lst (K.objs _ _ n b0q e) (K.lam _ _ n b0q e) ih) (fun e n ζ d ih => .dI (K.objs _ _ n a4d e) (K.lam _ _ n a4d e) ih d)
  (fun e n ζ d ih => .dT (K.objs _ _ n a4d e) (K.lam _ _ n a4d e) ih d) .fn .nil (fun ζ ζ a b => .cons a b) .nil (fun ζ ζ a b => .cons a b) .nil (fun e i ζ ζ a b => .cons (K.tups _ _ _ e) i a b) r
theorem ERelT.keep (K : Keep Λ Λ' h h') {es : List DictEntry} {l : List (List Int × D)} (r : ERelT gl h Λ es l) : ERelT gl h' Λ' es l :=
 ERelT.rec (motive_1 := fun v x ζ => DRel gl h' Λ' v x) (motive_2 := fun vs l ζ => DRels gl h' Λ' vs l) (motive_3 := fun es l ζ => ERelI gl h' Λ' es l) (motive_4 := fun es l ζ => ERelT gl h' Λ' es l)
  .none .bool .int .str (fun e ζ ih => .tup (K.tups _ _ _ e) ih) (fun e n ζ ih => .lst (K.objs _ _ n b0q e) (K.lam _ _ n b0q e) ih) (fun e n ζ d ih => .dI (K.objs _ _ n a4d e) (K.lam _ _ n a4d e) ih d)
  (fun e n ζ d ih => .dT (K.objs _ _ n a4d e) (K.lam _ _ n a4d e) ih d) .fn .nil (fun ζ ζ a b => .cons a b) .nil (fun ζ ζ a b => .cons a b) .nil (fun e i ζ ζ a b => .cons (K.tups _ _ _ e) i a b) r
theorem DRel.intI {v : Value} {i : Int} (r : DRel gl h Λ v (.int i)) : ∃ t, v = .int i t := by cases r; exact ⟨_, rfl⟩
theorem DRel.noneI {v : Value} (r : DRel gl h Λ v .none) : v = .none := by cases r; rfl
theorem DRel.boolI {v : Value} {b : Bool} (r : DRel gl h Λ v (.bool b)) : v = .bool b := by cases r; rfl
theorem DRel.lstI {v : Value} {l : List D} (r : DRel gl h Λ v (.lst l)) : ∃ a vs n, v = .ref a /\ h.get? a = some (LO vs n) /\ ¬ Λ a /\ DRels gl h Λ vs l := by cases r with | lst e n r => exact ⟨_, _, _, rfl, e, n, r⟩
theorem DRel.tupI {v : Value} {l : List D} (r : DRel gl h Λ v (.tup l)) : ∃ a vs n, v = .ref a /\ h.get? a = some (TO vs n) /\ DRels gl h Λ vs l := by cases r with | tup e r => exact ⟨_, _, _, rfl, e, r⟩
theorem DRel.dTI {v : Value} {l : List (List Int × D)} (r : DRel gl h Λ v (.dT l)) : ∃ a es n, v = .ref a /\ h.get? a = some (DO es n) /\ ERelT gl h Λ es l /\ (l.map (·.1)).Nodup /\ a ≠ sysModules := by cases r with | dT e n r d => exact ⟨_, _, _, rfl, e, r, d⟩
noncomputable def nnD : D -> Bool
 | .none | .fn _ => false
 | _ => true
theorem DRel.nn {v : Value} {x : D} (r : DRel gl h Λ v x) (hx : nnD x = true) : v ≠ .none := by
 cases r with
 | none => exact ff hx
 | fn _ => exact ff hx
 | _ => exact nofun
theorem DRels.ind {M : List Value -> List D -> Prop} (h0 : M [] []) (h1 : ∀ {v x vs l}, DRel gl h Λ v x -> DRels gl h Λ vs l -> M vs l -> M (v :: vs) (x :: l)) {vs : List Value} {l : List D} (r : DRels gl h Λ vs l) : M vs l := by
 induction l generalizing vs with
 | nil => cases r; exact h0
 | cons x l ih => cases r with | cons a b => exact h1 a b (ih b)
theorem DRels.two {vs : List Value} {x y : D} (r : DRels gl h Λ vs [x, y]) : ∃ u v, vs = [u, v] /\ DRel gl h Λ u x /\ DRel gl h Λ v y := by
 cases r with | cons a b => cases b with | cons c d => cases d; exact ⟨_, _, rfl, a, c⟩
theorem DRels.length {vs : List Value} {l : List D} (r : DRels gl h Λ vs l) : vs.length = l.length := DRels.ind (M := fun vs l => vs.length = l.length) rfl (fun ζ ζ ih => congrArg Nat.succ ih) r
theorem DRels.get {vs : List Value} {l : List D} {i : Nat} {x : D} (r : DRels gl h Λ vs l) : l[i]? = some x -> ∃ v, vs[i]? = some v /\ DRel gl h Λ v x :=
 DRels.ind (M := fun vs l => ∀ i, l[i]? = some x -> ∃ v, vs[i]? = some v /\ DRel gl h Λ v x) (fun i e => by exact dNS e)
  (fun {v} {y} {vs} {l} a _ ih i e => match i, e with
   | 0, e => ⟨v, rfl, Option.some.inj (e : some y = some x) ▸ a⟩
   | i + 1, e => ih i e) r i
theorem DRels.append {vs vs' : List Value} {l l' : List D} (r : DRels gl h Λ vs l) (r' : DRels gl h Λ vs' l') : DRels gl h Λ (vs ++ vs') (l ++ l') :=
 DRels.ind (M := fun vs l => DRels gl h Λ (vs ++ vs') (l ++ l')) r' (fun a ζ ih => .cons a ih) r
theorem DRels.ints {vs : List Value} {ns : List Int} (r : IntsAre vs ns) : DRels gl h Λ vs (ns.map D.int) := by
 induction r with
 | nil => exact .nil
 | cons n t _ ih => exact .cons (.int n t) ih
end
end Mine
end
section
open PySem PyProof.Rows
namespace Mine
theorem a3x {vs vs' : List Value} {n n' : Nat} (e : some (TO vs n) = some (LO vs' n')) : False := by
 have := congrArg Obj.cls (Option.some.inj e); simp [TO, LO] at this
theorem b6p {vs : List Value} {es : List DictEntry} {n n' : Nat} (e : some (TO vs n) = some (DO es n')) : False := by
 have := congrArg Obj.cls (Option.some.inj e); simp [TO, DO] at this
theorem TO_inj {vs vs' : List Value} {n n' : Nat} (e : some (TO vs n) = some (TO vs' n')) : vs = vs' := by
 have := congrArg Obj.data (Option.some.inj e); simp [TO] at this; exact this.1
theorem LO_inj {vs vs' : List Value} {n n' : Nat} (e : some (LO vs n) = some (LO vs' n')) : vs = vs' := by
 have := congrArg Obj.data (Option.some.inj e); simp [LO] at this; exact this.1
noncomputable def Un (Λ Φ : Addr -> Prop) (a : Addr) : Prop := Λ a ∨ Φ a
set_option tactic.hygienic true in
mutual
inductive VRel (gl : Str -> Option Value) (h : Heap) (Λ Φ : Addr -> Prop) (ad : List Addr) : Value -> V -> Prop
 | d {v : Value} {x : D} : DRel gl h (Un Λ Φ) v x -> VRel gl h Λ Φ ad v (.d x)
 | a {v : Value} {x : D} : DRel gl h Λ v x -> VRel gl h Λ Φ ad v (.a x)
 | r {a : Addr} {i : Nat} : ad[i]? = some a -> VRel gl h Λ Φ ad (.ref a) (.r i)
 | t {a : Addr} {vs : List Value} {n : Nat} {l : List V} : h.get? a = some (TO vs n) -> VRels gl h Λ Φ ad vs l -> VRel gl h Λ Φ ad (.ref a) (.t l)
inductive VRels (gl : Str -> Option Value) (h : Heap) (Λ Φ : Addr -> Prop) (ad : List Addr) : List Value -> List V -> Prop
 | nil : VRels gl h Λ Φ ad [] []
 | cons {v : Value} {x : V} {vs : List Value} {l : List V} : VRel gl h Λ Φ ad v x -> VRels gl h Λ Φ ad vs l -> VRels gl h Λ Φ ad (v :: vs) (x :: l)
end
section
variable {gl : Str -> Option Value} {Λ Λ' Φ : Addr -> Prop} {h h' : Heap} {ad ad' : List Addr}
theorem Keep.un (K : Keep Λ Λ' h h') : Keep (Un Λ Φ) (Un Λ' Φ) h h' where
 tups := K.tups
 objs := fun a o n c e => K.objs a o (fun l => n (.inl l)) c e
 lam := fun a o n c e l => l.elim (fun l' => K.lam a o (fun z => n (.inl z)) c e l') fun l' => n (.inr l')
theorem VRel.keep (K : Keep Λ Λ' h h') (P : ∀ (i : Nat) (a : Addr), ad[i]? = some a -> ad'[i]? = some a) {v : Value} {x : V} (r : VRel gl h Λ Φ ad v x) : VRel gl h' Λ' Φ ad' v x :=
 VRel.rec (motive_1 := fun v x ζ => VRel gl h' Λ' Φ ad' v x) (motive_2 := fun vs l ζ => VRels gl h' Λ' Φ ad' vs l) (fun r => .d (r.keep K.un)) (fun r => .a (r.keep K)) (fun e => .r (P _ _ e)) (fun e ζ ih => .t (K.tups _ _ _ e) ih) .nil (fun ζ ζ a b => .cons a b) r
theorem VRels.keep (K : Keep Λ Λ' h h') (P : ∀ (i : Nat) (a : Addr), ad[i]? = some a -> ad'[i]? = some a) {vs : List Value} {l : List V} (r : VRels gl h Λ Φ ad vs l) : VRels gl h' Λ' Φ ad' vs l :=
 VRels.rec (motive_1 := fun v x ζ => VRel gl h' Λ' Φ ad' v x) (motive_2 := fun vs l ζ => VRels gl h' Λ' Φ ad' vs l) (fun r => .d (r.keep K.un)) (fun r => .a (r.keep K)) (fun e => .r (P _ _ e)) (fun e ζ ih => .t (K.tups _ _ _ e) ih) .nil (fun ζ ζ a b => .cons a b) r
theorem VRel.dInv {v : Value} {x : D} (r : VRel gl h Λ Φ ad v (.d x)) : DRel gl h (Un Λ Φ) v x := by cases r; assumption
theorem VRel.aInv {v : Value} {x : D} (r : VRel gl h Λ Φ ad v (.a x)) : DRel gl h Λ v x := by cases r; assumption
theorem VRel.rInv {v : Value} {i : Nat} (r : VRel gl h Λ Φ ad v (.r i)) : ∃ a, v = .ref a /\ ad[i]? = some a := by cases r with | r e => exact ⟨_, rfl, e⟩
theorem VRel.tInv {v : Value} {l : List V} (r : VRel gl h Λ Φ ad v (.t l)) : ∃ a vs n, v = .ref a /\ h.get? a = some (TO vs n) /\ VRels gl h Λ Φ ad vs l := by cases r with | t e r => exact ⟨_, _, _, rfl, e, r⟩
theorem VRels.ind {M : List Value -> List V -> Prop} (h0 : M [] []) (h1 : ∀ {v x vs l}, VRel gl h Λ Φ ad v x -> VRels gl h Λ Φ ad vs l -> M vs l -> M (v :: vs) (x :: l)) {vs : List Value} {l : List V} (r : VRels gl h Λ Φ ad vs l) : M vs l := by
 induction l generalizing vs with
 | nil => cases r; exact h0
 | cons x l ih => cases r with | cons a b => exact h1 a b (ih b)
theorem VRels.length {vs : List Value} {l : List V} (r : VRels gl h Λ Φ ad vs l) : vs.length = l.length := VRels.ind (M := fun vs l => vs.length = l.length) rfl (fun ζ ζ ih => congrArg Nat.succ ih) r
end
noncomputable def ORel (gl : Str -> Option Value) (h : Heap) (Λ Φ : Addr -> Prop) (ad : List Addr) (a : Addr) : O -> Prop
 | .lst l => ∃ vs n, h.get? a = some (LO vs n) /\ DRels gl h (Un Λ Φ) vs l
 | .dI l => ∃ es n, h.get? a = some (DO es n) /\ ERelI gl h (Un Λ Φ) es l /\ (l.map (·.1)).Nodup /\ a ≠ sysModules
 | .dT l => ∃ es n, h.get? a = some (DO es n) /\ ERelT gl h (Un Λ Φ) es l /\ (l.map (·.1)).Nodup /\ a ≠ sysModules
 | .lstV l => ∃ vs n, h.get? a = some (LO vs n) /\ VRels gl h Λ Φ ad vs l
 | .dead => True
structure Cx where
 env : Env
 hB : Heap
 A : Around
 os : OsState
 gens : Array GenState
 Φ : Addr -> Prop
noncomputable def a3g (σ : List O) (ad : List Addr) (a : Addr) : Prop := ∃ (i : Nat) (o : O), ad[i]? = some a /\ σ[i]? = some o /\ o ≠ .dead
structure Step (exc : Addr -> Prop) (σ : List O) (ad : List Addr) (Λ : Addr -> Prop) (h : Heap) (σ' : List O) (ad' : List Addr) (Λ' : Addr -> Prop) (h' : Heap) : Prop where
 only : ∀ a o, ¬ a3g σ ad a -> ¬ exc a -> h.get? a = some o -> h'.get? a = some o
 dom : ∀ a o, h.get? a = some o -> ∃ o', h'.get? a = some o'
 lamO : ∀ a, Λ' a -> Λ a ∨ h.get? a = none
 pre : ∀ (i : Nat) (a : Addr), ad[i]? = some a -> ad'[i]? = some a
 liv : ∀ a, a3g σ' ad' a -> a3g σ ad a ∨ h.get? a = none
 adO : ∀ a, a ∈ ad' -> a ∈ ad ∨ h.get? a = none
 res : ∀ a o, h.get? a = some o -> Λ a -> ¬ a3g σ ad a -> Λ' a
theorem a1z {h h' : Heap} (d : ∀ a o, h.get? a = some o -> ∃ o', h'.get? a = some o') {a : Addr} (e : h'.get? a = none) : h.get? a = none := by
 cases q : h.get? a with
 | none => rfl
 | some o => obtain ⟨o', e'⟩ := d a o q; exact dGN e e'
theorem Step.refl {exc : Addr -> Prop} {σ : List O} {ad : List Addr} {Λ : Addr -> Prop} {h : Heap} : Step exc σ ad Λ h σ ad Λ h :=
 ⟨fun ζ ζ ζ ζ e => e, fun ζ o e => ⟨o, e⟩, fun ζ x => .inl x, fun ζ ζ e => e, fun ζ x => .inl x, fun ζ x => .inl x, fun ζ ζ ζ l ζ => l⟩
theorem Step.trans {exc : Addr -> Prop} {σ σ' σ'' : List O} {ad ad' ad'' : List Addr} {Λ Λ' Λ'' : Addr -> Prop} {h h' h'' : Heap}
  (x : Step exc σ ad Λ h σ' ad' Λ' h') (y : Step exc σ' ad' Λ' h' σ'' ad'' Λ'' h'') : Step exc σ ad Λ h σ'' ad'' Λ'' h'' :=
 ⟨fun a o n ne e => y.only a o (fun l => (x.liv a l).elim n fun l' => by exact dGN l' e) ne (x.only a o n ne e),
  fun a o e => by obtain ⟨o', e'⟩ := x.dom a o e; exact y.dom a o' e',
  fun a l => (y.lamO a l).elim (fun l' => x.lamO a l') fun l' => .inr (a1z x.dom l'),
  fun i a e => y.pre i a (x.pre i a e),
  fun a l => (y.liv a l).elim (fun l' => x.liv a l') fun l' => .inr (a1z x.dom l'),
  fun a l => (y.adO a l).elim (fun l' => x.adO a l') fun l' => .inr (a1z x.dom l'),
  fun a o e l nl => by
   obtain ⟨o', e'⟩ := x.dom a o e
   exact y.res a o' e' (x.res a o e l nl) fun l' => (x.liv a l').elim nl fun l'' => by exact dGN l'' e⟩
theorem Step.weak {exc exc' : Addr -> Prop} {σ σ' : List O} {ad ad' : List Addr} {Λ Λ' : Addr -> Prop} {h h' : Heap} (w : ∀ a, exc a -> exc' a)
  (x : Step exc σ ad Λ h σ' ad' Λ' h') : Step exc' σ ad Λ h σ' ad' Λ' h' :=
 ⟨fun a o n ne e => x.only a o n (fun z => ne (w a z)) e, x.dom, x.lamO, x.pre, x.liv, x.adO, x.res⟩
structure St (gl : Str -> Option Value) (X : Cx) (names : List Str) (ρ : List (Option V)) (σ : List O) (Λ : Addr -> Prop) (ad : List Addr) (s : Shared) : Prop where
 keep : ∀ b o, X.hB.get? b = some o -> s.heap.get? b = some o
 os : s.os = X.os
 gens : s.gens = X.gens
 new : ∀ a, Λ a -> X.hB.get? a = none
 lt : ∀ a, Λ a -> ∃ o, s.heap.get? a = some o
 phi : ∀ a, X.Φ a -> ∃ o, X.hB.get? a = some o
 nd : ad.Nodup
 len : ad.length = σ.length
 adl : ∀ a ∈ ad, ∃ o, s.heap.get? a = some o
 objs : ∀ (i : Nat) (a : Addr) (o : O), ad[i]? = some a -> σ[i]? = some o -> o ≠ .dead -> Λ a /\ ORel gl s.heap Λ X.Φ ad a o
 locL : Λ X.env.locals
 locA : X.env.locals ∉ ad
 cellN : ∀ x c, X.env.kindOf x = some .cell -> X.env.cells.lookup x = some c -> X.hB.get? c = none
 rl : ρ.length = names.length
 vars : ∃ (m cm : Str -> Option Value), s.heap.Ns X.env.locals m /\ (∀ n c, X.env.cells.lookup n = some c -> s.heap.IsCell c (cm n)) /\
  ∀ (x : Str) (i : Nat) (val : V), vis names x = some i -> ρ[i]? = some (some val) ->
   (X.env.kindOf x = some .local -> ∃ v, m x = some v /\ VRel gl s.heap Λ X.Φ ad v val) /\
   (X.env.kindOf x = some .cell ∨ X.env.kindOf x = some .free -> ∃ c v, X.env.cells.lookup x = some c /\ cm x = some v /\ VRel gl s.heap Λ X.Φ ad v val)
structure Kept (L : Addr) (s s' : Shared) : Prop where
 obj : ∀ a o, a ≠ L -> s.heap.get? a = some o -> s'.heap.get? a = some o
 ns : ∀ m, s.heap.Ns L m -> s'.heap.Ns L m
 os : s'.os = s.os
 gens : s'.gens = s.gens
theorem Kept.of_keeps {L : Addr} {s s' : Shared} (k : ∀ a o, s.heap.get? a = some o -> s'.heap.get? a = some o) (ho : s'.os = s.os) (hg : s'.gens = s.gens) : Kept L s s' :=
 ⟨fun a o ζ e => k a o e, fun ζ n => n.keeps k, ho, hg⟩
theorem Kept.refl {L : Addr} {s : Shared} : Kept L s s := .of_keeps (fun ζ ζ e => e) rfl rfl
theorem Kept.toks {L : Addr} {s : Shared} {t : Nat} : Kept L s { s with toks := t } := .of_keeps (fun ζ ζ e => e) rfl rfl
theorem b2s {h : Heap} {L : Addr} {m : Str -> Option Value} (n : h.Ns L m) {vs : List Value} {k : Nat} : h.get? L ≠ some (TO vs k) := by
 obtain ⟨o, es, ep, e, d, _⟩ := n
 intro e'; rw [e] at e'; cases e'; cases d
theorem b4u {h : Heap} {c : Addr} {v : Option Value} (n : h.IsCell c v) {vs : List Value} {k : Nat} : h.get? c ≠ some (TO vs k) := by
 obtain ⟨o, e, d⟩ := n
 intro e'; rw [e] at e'; cases e'; cases d
theorem a2j {h : Heap} {c L : Addr} {v : Option Value} {m : Str -> Option Value} (n : h.IsCell c v) (n' : h.Ns L m) : c ≠ L := by
 rintro rfl
 obtain ⟨o, e, d⟩ := n
 obtain ⟨o', es, ep, e', d', _⟩ := n'
 rw [e] at e'; cases e'; rw [d] at d'; cases d'
section
variable {gl : Str -> Option Value} {X : Cx} {names : List Str} {ρ ρ' : List (Option V)} {σ σ' : List O} {Λ Λ' : Addr -> Prop} {ad ad' : List Addr} {s s' : Shared} {h' : Heap} {tk : Nat}
theorem St.live_lam (S : St gl X names ρ σ Λ ad s) {a : Addr} (l : a3g σ ad a) : Λ a := by
 obtain ⟨i, o, e1, e2, e3⟩ := l
 exact (S.objs i a o e1 e2 e3).1
theorem a2t (S : St gl X names ρ σ Λ ad s) {a : Addr} {vs : List Value} {n : Nat} (e : s.heap.get? a = some (TO vs n)) : ¬ a3g σ ad a := by
 rintro ⟨i, o, e1, e2, e3⟩
 have := (S.objs i a o e1 e2 e3).2
 cases o with
 | lst l => obtain ⟨vs', n', e', _⟩ := this; rw [e] at e'; exact a3x e'
 | dI l => obtain ⟨vs', n', e', _⟩ := this; rw [e] at e'; exact b6p e'
 | dT l => obtain ⟨vs', n', e', _⟩ := this; rw [e] at e'; exact b6p e'
 | lstV l => obtain ⟨vs', n', e', _⟩ := this; rw [e] at e'; exact a3x e'
 | dead => exact e3 rfl
noncomputable def a1d (env : Env) : Addr -> Prop := fun a => a = env.locals
theorem b2t (S : St gl X names ρ σ Λ ad s) {a : Addr} {vs : List Value} {n : Nat} (e : s.heap.get? a = some (TO vs n)) : a ≠ X.env.locals := by
 rintro rfl
 refine xEEA S.vars fun m cm hn ζ => ?_
 exact b2s hn e
theorem Step.keep (S : St gl X names ρ σ Λ ad s) (P : Step (a1d X.env) σ ad Λ s.heap σ' ad' Λ' h') : Keep Λ Λ' s.heap h' where
 tups := fun a vs n e => P.only a _ (a2t S e) (b2t S e) e
 objs := fun a o nl ζ e => P.only a o (fun l => nl (S.live_lam l)) (fun x => nl (x ▸ S.locL)) e
 lam := fun a o nl ζ e l => (P.lamO a l).elim nl fun l' => by exact dGN l' e
noncomputable def a2e (env : Env) (a : Addr) : Prop := a = env.locals ∨ ∃ x, env.cells.lookup x = some a
theorem Step.keepS (S : St gl X names ρ σ Λ ad s) (P : Step (a2e X.env) σ ad Λ s.heap σ' ad' Λ' h') : Keep Λ Λ' s.heap h' where
 tups := fun a vs n e => P.only a _ (a2t S e) (by
  rintro (h | ⟨x, h⟩)
  ·exact b2t S e h
  ·refine a0u S.vars fun m cm ζ hc ζ => ?_
   exact b4u (hc x a h) e) e
 objs := fun a o nl nc e => P.only a o (fun l => nl (S.live_lam l)) (by
  rintro (h | ⟨x, h⟩)
  ·exact nl (h ▸ S.locL)
  ·refine a0u S.vars fun m cm ζ hc ζ => ?_
   obtain ⟨o', e', d'⟩ := hc x a h
   rw [e] at e'; cases e'
   rcases nc with ⟨_, _, rfl⟩ | ⟨_, _, rfl⟩ <;> cases d') e
 lam := fun a o nl ζ e l => (P.lamO a l).elim nl fun l' => by exact dGN l' e
theorem Step.own {σ' : List O} (P : Step (a1d X.env) σ ad Λ s.heap σ' ad' Λ' h') : Step (a2e X.env) σ ad Λ s.heap σ' ad' Λ' h' := P.weak fun ζ h => .inl h
theorem VRels.step (S : St gl X names ρ σ Λ ad s) (P : Step (a1d X.env) σ ad Λ s.heap σ' ad' Λ' h') {v : List Value} {x : List V} (r : VRels gl s.heap Λ X.Φ ad v x) : VRels gl h' Λ' X.Φ ad' v x :=
 r.keep (P.keep S) P.pre
theorem VRel.step (S : St gl X names ρ σ Λ ad s) (P : Step (a1d X.env) σ ad Λ s.heap σ' ad' Λ' h') {v : Value} {x : V} (r : VRel gl s.heap Λ X.Φ ad v x) : VRel gl h' Λ' X.Φ ad' v x :=
 r.keep (P.keep S) P.pre
theorem Step.of_kept (S : St gl X names ρ σ Λ ad s) (k : Kept X.env.locals s s') : Step (a1d X.env) σ ad Λ s.heap σ ad Λ s'.heap where
 only := fun a o ζ ne e => k.obj a o ne e
 dom := fun a o e => by
  by_cases h : a = X.env.locals
  ·subst h
   refine xEEA S.vars fun m cm hn ζ => ?_
   obtain ⟨o', _, _, e', _⟩ := k.ns m hn
   exact ⟨o', e'⟩
  ·exact ⟨o, k.obj a o h e⟩
 lamO := fun ζ l => .inl l
 pre := fun ζ ζ e => e
 liv := fun ζ l => .inl l
 adO := fun ζ l => .inl l
 res := fun ζ ζ ζ l ζ => l
theorem ORel.keep {Φ : Addr -> Prop} {h h' : Heap} {a : Addr} {o : O} (K : Keep Λ Λ' h h') (P : ∀ (i : Nat) (a : Addr), ad[i]? = some a -> ad'[i]? = some a) (ka : ∀ o, h.get? a = some o -> h'.get? a = some o) (x : ORel gl h Λ Φ ad a o) : ORel gl h' Λ' Φ ad' a o := by
 cases o with
 | lst l => obtain ⟨vs, n, e, r⟩ := x; exact ⟨vs, n, ka _ e, r.keep K.un⟩
 | dI l => obtain ⟨vs, n, e, r, d⟩ := x; exact ⟨vs, n, ka _ e, r.keep K.un, d⟩
 | dT l => obtain ⟨vs, n, e, r, d⟩ := x; exact ⟨vs, n, ka _ e, r.keep K.un, d⟩
 | lstV l => obtain ⟨vs, n, e, r⟩ := x; exact ⟨vs, n, ka _ e, r.keep K P⟩
 | dead => trivial
theorem b4v (S : St gl X names ρ σ Λ ad s) {b : Addr} {o : Obj} (e : X.hB.get? b = some o) : b ≠ X.env.locals := by
 rintro rfl
 rw [S.new _ S.locL] at e; exact dNS e
theorem a0g {ad : List Addr} {i : Nat} {a : Addr} (e : ad[i]? = some a) : a ∈ ad := List.mem_of_getElem? e
theorem St.kept (S : St gl X names ρ σ Λ ad s) (k : Kept X.env.locals s s') : St gl X names ρ σ Λ ad s' where
 keep := fun b o e => k.obj b o (b4v S e) (S.keep b o e)
 os := k.os.trans S.os
 gens := k.gens.trans S.gens
 new := S.new
 lt := fun a l => by obtain ⟨o, e⟩ := S.lt a l; exact (Step.of_kept S k).dom a o e
 phi := S.phi
 nd := S.nd
 len := S.len
 adl := fun a ha => by obtain ⟨o, e⟩ := S.adl a ha; exact (Step.of_kept S k).dom a o e
 objs := fun i a o e1 e2 e3 => ⟨(S.objs i a o e1 e2 e3).1, (S.objs i a o e1 e2 e3).2.keep ((Step.of_kept S k).keep S) (fun ζ ζ e => e) fun o e => k.obj a o (fun h => S.locA (h ▸ a0g e1)) e⟩
 locL := S.locL
 locA := S.locA
 cellN := S.cellN
 rl := S.rl
 vars := by
  have K := (Step.of_kept S k).keep S
  refine a0u S.vars fun m cm n c v => ?_
  refine ⟨m, cm, k.ns m n, fun x c' e => ?_, fun x i val e1 e2 => ⟨fun hk => ?_, fun hk => ?_⟩⟩
  ·have hc := c x c' e
   have := a2j hc n
   obtain ⟨o, ho, hd⟩ := hc
   exact ⟨o, k.obj c' o this ho, hd⟩
  ·refine xEA ((v x i val e1 e2).1 hk) fun v' h1 h2 => ?_
   exact ⟨v', h1, h2.keep K fun ζ ζ e => e⟩
  ·refine a0u ((v x i val e1 e2).2 hk) fun c' v' h1 h2 h3 => ?_
   exact ⟨c', v', h1, h2, h3.keep K fun ζ ζ e => e⟩
end
noncomputable def Room (A : Around) (k : Nat) : Prop := A.handled = none /\ A.depth + k < recursionLimit /\ A.units + 5 * k + 300 < cLine
structure KindsOk (env : Env) (sc : Scope) : Prop where
 kind : env.scope.kind = .function
 glob : env.globals = mainGlobals
 blt : env.builtins = builtinsNs
 loc : ∀ x, sc.names.lookup x = some .local -> env.kindOf x = some .local
 cel : ∀ x, sc.names.lookup x = some .cell ∨ sc.names.lookup x = some .free -> env.kindOf x = some .cell ∨ env.kindOf x = some .free
 glo : ∀ x, sc.names.lookup x = some .globalImplicit -> env.kindOf x = some .globalImplicit
 apart : (∃ x, sc.names.lookup x = some .cell) -> env.cells.Pairwise fun x y => x.2 ≠ y.2
 celE : ∀ x, env.kindOf x = some .cell ∨ env.kindOf x = some .free -> ∃ c, env.cells.lookup x = some c
 celS : ∀ x, sc.names.lookup x = some .cell -> env.kindOf x = some .cell
inductive Post (gl : Str -> Option Value) (X : Cx) (names : List Str) (ρ : List (Option V)) (σ : List O) (Λ : Addr -> Prop) (ad : List Addr) (s : Shared) (Q : V -> List O -> Prop) (v : Value) (s' : Shared) : Prop
 | mk (val : V) (σ' : List O) (Λ' : Addr -> Prop) (ad' : List Addr) (h1 : St gl X names ρ σ' Λ' ad' s') (h2 : Step (a1d X.env) σ ad Λ s.heap σ' ad' Λ' s'.heap) (h3 : VRel gl s'.heap Λ' X.Φ ad' v val) (h4 : Q val σ') : Post gl X names ρ σ Λ ad s Q v s'
inductive PostC (gl : Str -> Option Value) (X : Cx) (names : List Str) (ρ : List (Option V)) (σ : List O) (Λ : Addr -> Prop) (ad : List Addr) (s : Shared) (Q : Bool -> List O -> Prop) (b : Bool) (s' : Shared) : Prop
 | mk (σ' : List O) (Λ' : Addr -> Prop) (ad' : List Addr) (h1 : St gl X names ρ σ' Λ' ad' s') (h2 : Step (a1d X.env) σ ad Λ s.heap σ' ad' Λ' s'.heap) (h3 : Q b σ') : PostC gl X names ρ σ Λ ad s Q b s'
structure World0 where
 p : Program
 q : Program
 w : World
 loose : List Str
 mean : ExcName -> Option Value
 gl : Str -> Option Value
 mb : Str -> Option Value
noncomputable def World0.ok (W : World0) (h : Heap) : Prop := Top W.q W.loose W.mean W.gl W.mb h
theorem World0.keeps (W : World0) {h h' : Heap} (x : W.ok h) (k : ∀ b o, h.get? b = some o -> h'.get? b = some o) : W.ok h' := Top.keeps x k
structure WOk (W : World0) : Prop where
 blt : ∀ x ∈ bltNames, W.gl (Str.ofString x) = none
noncomputable def HasF (W : World0) (f : String) (cf : CF) : Prop := ∃ d ∈ recsOf W.q, d.name = Str.ofString f /\ isF cf d = true
noncomputable def TE (W : World0) (k : Nat) (e : CE) (ρ : List (Option V)) (σ : List O) (Q : V -> List O -> Prop) : Prop :=
 ∀ names sc E, isE names sc e E = true -> ∀ X : Cx, KindsOk X.env sc -> Room X.A k -> W.ok X.hB -> ∀ Λ ad s, St W.gl X names ρ σ Λ ad s ->
  wpAny (model W.p W.w) X.A (eval E X.env) (Post W.gl X names ρ σ Λ ad s Q) (fun ζ ζ => False) s
noncomputable def TEs (W : World0) (k : Nat) (es : List CE) (ρ : List (Option V)) (σ : List O) (Q : List V -> List O -> Prop) : Prop :=
 match es with
 | [] => Q [] σ
 | e :: es => TE W k e ρ σ fun v σ' => TEs W k es ρ σ' fun vs σ'' => Q (v :: vs) σ''
noncomputable def TC (W : World0) (k : Nat) (e : CE) (ρ : List (Option V)) (σ : List O) (Q : Bool -> List O -> Prop) : Prop :=
 ∀ names sc E, isE names sc e E = true -> ∀ X : Cx, KindsOk X.env sc -> Room X.A k -> W.ok X.hB -> ∀ Λ ad s, St W.gl X names ρ σ Λ ad s ->
  wpAny (model W.p W.w) X.A (isTrue E X.env (eval E X.env)) (PostC W.gl X names ρ σ Λ ad s Q) (fun ζ ζ => False) s
inductive Out where
 | next
 | ret (v : V)
inductive FRel (gl : Str -> Option Value) (h : Heap) (Λ Φ : Addr -> Prop) (ad : List Addr) : Flow -> Out -> Prop
 | next : FRel gl h Λ Φ ad .next .next
 | ret {v : Value} {x : V} : VRel gl h Λ Φ ad v x -> FRel gl h Λ Φ ad (.ret v) (.ret x)
inductive PostS (gl : Str -> Option Value) (X : Cx) (names : List Str) (σ : List O) (Λ : Addr -> Prop) (ad : List Addr) (s : Shared) (Q : Out -> List (Option V) -> List O -> Prop) (f : Flow) (s' : Shared) : Prop
 | mk (out : Out) (ρ' : List (Option V)) (σ' : List O) (Λ' : Addr -> Prop) (ad' : List Addr) (h1 : St gl X names ρ' σ' Λ' ad' s') (h2 : Step (a2e X.env) σ ad Λ s.heap σ' ad' Λ' s'.heap) (h3 : FRel gl s'.heap Λ' X.Φ ad' f out) (h4 : Q out ρ' σ') : PostS gl X names σ Λ ad s Q f s'
noncomputable def TS (W : World0) (k : Nat) (ss : List CS) (ρ : List (Option V)) (σ : List O) (Q : Out -> List (Option V) -> List O -> Prop) : Prop :=
 ∀ names sc S, isSs names sc ss S = true -> ∀ X : Cx, KindsOk X.env sc -> Room X.A k -> W.ok X.hB -> ∀ Λ ad s, St W.gl X names ρ σ Λ ad s ->
  wpAny (model W.p W.w) X.A (execs S X.env) (PostS W.gl X names σ Λ ad s Q) (fun ζ ζ => False) s
end Mine
end
section
open PySem PyProof.Rows
namespace Mine
section
variable {gl : Str -> Option Value} {X : Cx} {names : List Str} {ρ ρ' : List (Option V)} {σ σ' σ'' : List O} {Λ Λ' Λ'' : Addr -> Prop} {ad ad' ad'' : List Addr} {s s' s'' : Shared} {h' : Heap} {tk : Nat}
variable {W : World0} {k : Nat} {Q : V -> List O -> Prop}
theorem Post.pure (S : St gl X names ρ σ Λ ad s) (kk : Kept X.env.locals s s') {v : Value} {x : V} (r : VRel gl s'.heap Λ X.Φ ad v x) (q : Q x σ) : Post gl X names ρ σ Λ ad s Q v s' :=
 ⟨x, σ, Λ, ad, S.kept kk, .of_kept S kk, r, q⟩
theorem Post.here (S : St gl X names ρ σ Λ ad s) {v : Value} {x : V} {t : Nat} (r : VRel gl s.heap Λ X.Φ ad v x) (q : Q x σ) : Post gl X names ρ σ Λ ad s Q v { s with toks := t } :=
 Post.pure (s' := { s with toks := t }) S .toks r q
theorem Post.trans {Q : V -> List O -> Prop} {v : Value} (P : Step (a1d X.env) σ ad Λ s.heap σ' ad' Λ' s'.heap) (x : Post gl X names ρ σ' Λ' ad' s' Q v s'') : Post gl X names ρ σ Λ ad s Q v s'' := by
 obtain ⟨val, σ2, Λ2, ad2, S2, P2, r, q⟩ := x
 exact ⟨val, σ2, Λ2, ad2, S2, P.trans P2, r, q⟩
theorem Post.mono {Q Q' : V -> List O -> Prop} {v : Value} (x : Post gl X names ρ σ Λ ad s Q v s') (h : ∀ a b, Q a b -> Q' a b) : Post gl X names ρ σ Λ ad s Q' v s' := by
 obtain ⟨val, σ2, Λ2, ad2, S2, P2, r, q⟩ := x
 exact ⟨val, σ2, Λ2, ad2, S2, P2, r, h _ _ q⟩
theorem TE.mono {e : CE} {Q Q' : V -> List O -> Prop} (t : TE W k e ρ σ Q) (h : ∀ v σ, Q v σ -> Q' v σ) : TE W k e ρ σ Q' :=
 fun names sc E he X hk hr hw Λ ad s S => wpAny_mono (t names sc E he X hk hr hw Λ ad s S) (fun v s' x => x.mono h) fun ζ ζ f => f
theorem TC.mono {e : CE} {Q Q' : Bool -> List O -> Prop} (t : TC W k e ρ σ Q) (h : ∀ v σ, Q v σ -> Q' v σ) : TC W k e ρ σ Q' :=
 fun names sc E he X hk hr hw Λ ad s S => wpAny_mono (t names sc E he X hk hr hw Λ ad s S) (fun v s' ⟨a, b, c, d, e, f⟩ => ⟨a, b, c, d, e, h _ _ f⟩) fun ζ ζ f => f
theorem TE.int {i : Int} (q : Q (.d (.int i)) σ) : TE W k (.int i) ρ σ Q := fun names sc E he X hk hr hw Λ ad s S => by
 replace he := c8s he; obtain ⟨_, _, _, rfl, he⟩ := he
 ·obtain rfl := beq_iff_eq.mp he
  exact wpAny_Constant_int (Post.here S (.d (.int _ _)) q)
theorem TE.bool {b : Bool} (q : Q (.d (.bool b)) σ) : TE W k (.bool b) ρ σ Q := fun names sc E he X hk hr hw Λ ad s S => by
 replace he := c4o he; obtain ⟨_, _, _, rfl, he⟩ := he
 ·obtain rfl := beq_iff_eq.mp he
  erw [eval_Constant]
  exact wpAny_pure (Post.here (t := s.toks) S (.d (.bool _)) q)
theorem TE.none (q : Q (.d .none) σ) : TE W k .none ρ σ Q := fun names sc E he X hk hr hw Λ ad s S => by
 replace he := c4p he; obtain ⟨_, _, rfl, he⟩ := he
 ·erw [eval_Constant]
  exact wpAny_pure (Post.here (t := s.toks) S (.d .none) q)
theorem TE.str {x : String} (q : Q (.d (.str (Str.ofString x))) σ) : TE W k (.str x) ρ σ Q := fun names sc E he X hk hr hw Λ ad s S => by
 replace he := c8t he; obtain ⟨_, _, _, rfl, he⟩ := he
 ·obtain rfl := beq_iff_eq.mp he
  erw [eval_Constant]
  exact wpAny_mkText (Post.here S (.d (.str _ _)) q)
theorem St.load (S : St gl X names ρ σ Λ ad s) {sc : Scope} (hk : KindsOk X.env sc) {x : Str} {i : Nat} {val : V} (hl : b2i (sc.names.lookup x) = true) (hv : vis names x = some i)
  (e : ρ[i]? = some (some val)) {M : Model} {A : Around} {E : Value -> Shared -> Prop} {Q : Value -> Shared -> Prop} (hcd : (x == ("__classdict__" : Str)) = false) (q : ∀ v, VRel gl s.heap Λ X.Φ ad v val -> Q v s) : wpAny M A (loadName X.env x) Q E s := by
 refine a0u S.vars fun m cm hn hc hvars => ?_
 obtain ⟨h1, h2⟩ := hvars x i val hv e
 cases hlk : sc.names.lookup x with
 | none => rw [hlk] at hl; exact dFT hl
 | some kd =>
  rw [hlk] at hl
  have cellcase : (X.env.kindOf x = some .cell ∨ X.env.kindOf x = some .free) -> wpAny M A (loadName X.env x) Q E s := fun hor => by
   refine a0u (h2 hor) fun c v e1 e2 r => ?_
   have hcell := hc x c e1
   rw [e2] at hcell
   rcases hor with hor | hor
   ·exact wpAny_loadName_cell hk.kind hor e1 hcell (q v r)
   ·exact wpAny_loadName_free hk.kind hor e1 hcell (q v r) hcd
  cases kd with
  | «local» =>
   refine xEA (h1 (hk.loc x hlk)) fun v e1 r => ?_
   exact wpAny_loadName_local hk.kind (hk.loc x hlk) hn e1 (q v r)
  | cell => exact cellcase (hk.cel x (.inl hlk))
  | free => exact cellcase (hk.cel x (.inr hlk))
  | globalExplicit => exact dFT hl
  | globalImplicit => exact dFT hl
theorem TE.var {i : Nat} {val : V} (e : ρ[i]? = some (some val)) (q : Q val σ) : TE W k (.var i) ρ σ Q := fun names sc E he X hk hr hw Λ ad s S => by
 replace he := b4s he; obtain ⟨x, pos, rfl, he⟩ := he
 ·skip
  simp only [b2j, Bool.and_eq_true, Bool.not_eq_true', beq_iff_eq] at he
  obtain ⟨⟨⟨h1, h2⟩, h3⟩, h4⟩ := he
  exact wpAny_Name (S.load hk h1 h2 e h4 fun v r => Post.here (t := s.toks) S r q) h3
theorem TE.two {a b : CE} {names : List Str} {sc : Scope} {l r : Expr} {Q : V -> List O -> Prop} {X : Cx} {Λ : Addr -> Prop} {ad : List Addr} {s : Shared} {F : Value -> Value -> Sem Value}
  (ta : TE W k a ρ σ fun va σ1 => TE W k b ρ σ1 fun vb σ2 => ∀ names X Λ ad s x y, Room X.A k -> W.ok X.hB -> St W.gl X names ρ σ2 Λ ad s -> VRel W.gl s.heap Λ X.Φ ad x va -> VRel W.gl s.heap Λ X.Φ ad y vb ->
   wpAny (model W.p W.w) X.A (F x y) (Post W.gl X names ρ σ2 Λ ad s Q) (fun ζ ζ => False) s)
  (ha : isE names sc a l = true) (hb : isE names sc b r = true) (hk : KindsOk X.env sc) (hr : Room X.A k) (hw : W.ok X.hB) (S : St W.gl X names ρ σ Λ ad s) :
  wpAny (model W.p W.w) X.A (eval l X.env) (fun x s₁ => wpAny (model W.p W.w) X.A (eval r X.env) (fun y s₂ => wpAny (model W.p W.w) X.A (F x y) (Post W.gl X names ρ σ Λ ad s Q) (fun ζ ζ => False) s₂) (fun ζ ζ => False) s₁) (fun ζ ζ => False) s := by
 refine wpAny_mono (ta names sc l ha X hk hr hw Λ ad s S) (fun x s₁ h₁ => ?_) fun ζ ζ f => f
 obtain ⟨va, σ1, Λ1, ad1, S1, P1, r₁, t₁⟩ := h₁
 refine wpAny_mono (t₁ names sc r hb X hk hr hw Λ1 ad1 s₁ S1) (fun y s₂ h₂ => ?_) fun ζ ζ f => f
 obtain ⟨vb, σ2, Λ2, ad2, S2, P2, r₂, t₂⟩ := h₂
 exact wpAny_mono (t₂ names X Λ2 ad2 s₂ x y hr hw S2 (r₁.step S1 P2) r₂) (fun v s' p => (p.trans P2).trans P1) fun ζ ζ f => f
theorem a0v {names : List Str} {sc : Scope} {e : CE} {E : Expr} (h : isE names sc e E = true) (rest : List Expr) (env : Env) : starEach (E :: rest) env = (false, eval E env) :: starEach rest env := by
 cases E with
 | Starred v p => exact b2r h rfl
 | _ => rfl
inductive PostL (gl : Str -> Option Value) (X : Cx) (names : List Str) (ρ : List (Option V)) (σ : List O) (Λ : Addr -> Prop) (ad : List Addr) (s : Shared) (Q : List V -> List O -> Prop) (vs : List Value) (s' : Shared) : Prop
 | mk (vals : List V) (σ' : List O) (Λ' : Addr -> Prop) (ad' : List Addr) (h1 : St gl X names ρ σ' Λ' ad' s') (h2 : Step (a1d X.env) σ ad Λ s.heap σ' ad' Λ' s'.heap) (h3 : VRels gl s'.heap Λ' X.Φ ad' vs vals) (h4 : Q vals σ') : PostL gl X names ρ σ Λ ad s Q vs s'
theorem TEs.run : ∀ {es : List CE} {σ : List O} {Q : List V -> List O -> Prop} (t : TEs W k es ρ σ Q) {names : List Str} {sc : Scope} {Es : List Expr}, isEs names sc es Es = true ->
  ∀ {X : Cx}, KindsOk X.env sc -> Room X.A k -> W.ok X.hB -> ∀ {Λ : Addr -> Prop} {ad : List Addr} {s : Shared}, St W.gl X names ρ σ Λ ad s -> ∀ pos : Pos,
  wpAny (model W.p W.w) X.A (spliced (backTo pos (starEach Es X.env))) (PostL W.gl X names ρ σ Λ ad s Q) (fun ζ ζ => False) s
 | [], σ, Q, t, names, sc, Es, he, X, hk, hr, hw, Λ, ad, s, S, pos => by
  first | (replace he := a0i he; obtain ⟨_, _, rfl, he⟩ := he) | (replace he := a0n he; obtain ⟨rfl, he⟩ := he)
  ·exact args_nil ⟨[], σ, Λ, ad, S, .refl, .nil, t⟩
 | e :: es, σ, Q, t, names, sc, Es, he, X, hk, hr, hw, Λ, ad, s, S, pos => by
  first | (replace he := a0i he; obtain ⟨x, xs, rfl, he⟩ := he) | (replace he := a0n he; obtain ⟨rfl, he⟩ := he)
  ·skip
   simp only [Bool.and_eq_true] at he
   refine args_cons (wpAny_mono (t names sc x he.1 X hk hr hw Λ ad s S) (fun v s₁ h₁ => ?_) fun ζ ζ f => f) (a0v he.1 _ _)
   obtain ⟨val, σ1, Λ1, ad1, S1, P1, r₁, t₁⟩ := h₁
   refine wpAny_mono (TEs.run t₁ he.2 hk hr hw S1 pos) (fun vs s₂ h₂ => ?_) fun ζ ζ f => f
   obtain ⟨vals, σ2, Λ2, ad2, S2, P2, r₂, q⟩ := h₂
   exact ⟨val :: vals, σ2, Λ2, ad2, S2, P1.trans P2, .cons (r₁.step S1 P2) r₂, q⟩
end
end Mine
end
section
open PySem PyProof.Rows PySem.SeqAt
namespace Mine
set_option tactic.hygienic true in
mutual
noncomputable def eqD : D -> D -> Bool
 | .none, .none => true
 | .bool a, .bool b => a == b
 | .bool a, .int b => (if a then 1 else 0) == b
 | .int a, .bool b => a == (if b then 1 else 0)
 | .int a, .int b => a == b
 | .str a, .str b => a == b
 | .tup a, .tup b => eqDs a b
 | .lst a, .lst b => eqDs a b
 | _, _ => false
noncomputable def eqDs : List D -> List D -> Bool
 | [], [] => true
 | x :: xs, y :: ys => eqD x y && eqDs xs ys
 | _, _ => false
end
set_option tactic.hygienic true in
mutual
noncomputable def a0q : D -> Bool
 | .none | .bool _ | .int _ | .str _ => true
 | .tup l | .lst l => a0r l
 | _ => false
noncomputable def a0r : List D -> Bool
 | [] => true
 | x :: xs => a0q x && a0r xs
end
set_option tactic.hygienic true in
mutual
noncomputable def dep : D -> Nat
 | .tup l | .lst l => deps l + 1
 | _ => 0
noncomputable def deps : List D -> Nat
 | [] => 0
 | x :: xs => max (dep x) (deps xs)
end
set_option tactic.hygienic true in
mutual
theorem a5d : ∀ x : D, a0q x = true -> eqD x x = true
 | .none, _ => rfl
 | .bool b, _ => beq_self_eq_true b
 | .int b, _ => beq_self_eq_true b
 | .str b, _ => beq_self_eq_true b
 | .tup l, h => a7t l h
 | .lst l, h => a7t l h
 | .dI l, h => ff h
 | .dT l, h => ff h
 | .fn f, h => ff h
theorem a7t : ∀ l : List D, a0r l = true -> eqDs l l = true
 | [], _ => rfl
 | x :: xs, h => by
  have h := Bool.and_eq_true_iff.mp h
  show (eqD x x && eqDs xs xs) = true
  erw [a5d x h.1, a7t xs h.2]; rfl
end
section
variable {gl : Str -> Option Value} {h : Heap} {Λ Λ' : Addr -> Prop}
theorem c4y {a : Addr} {vs : List Value} {n : Nat} {y : D} (e : h.get? a = some (TO vs n)) (c : DRel gl h Λ' (.ref a) y) (hy : a0q y = true) : ∃ l', y = .tup l' /\ DRels gl h Λ' vs l' := by
 cases c with
 | tup e' r' => rw [e] at e'; obtain rfl := TO_inj e'; exact ⟨_, rfl, r'⟩
 | lst e' _ _ => rw [e] at e'; exact (a3x e').elim
 | dI _ _ _ _ => exact Bool.noConfusion hy
 | dT _ _ _ _ => exact Bool.noConfusion hy
 | fn _ => exact Bool.noConfusion hy
theorem c4z {a : Addr} {vs : List Value} {n : Nat} {y : D} (e : h.get? a = some (LO vs n)) (c : DRel gl h Λ' (.ref a) y) (hy : a0q y = true) : ∃ l', y = .lst l' /\ DRels gl h Λ' vs l' := by
 cases c with
 | tup e' r' => rw [e] at e'; exact (a3x e'.symm).elim
 | lst e' _ r' => rw [e] at e'; obtain rfl := LO_inj e'; exact ⟨_, rfl, r'⟩
 | dI _ _ _ _ => exact Bool.noConfusion hy
 | dT _ _ _ _ => exact Bool.noConfusion hy
 | fn _ => exact Bool.noConfusion hy
theorem DRel.unique {v : Value} {x y : D} (r : DRel gl h Λ v x) (c : DRel gl h Λ' v y) (hx : a0q x = true) (hy : a0q y = true) : x = y := by
 refine DRel.rec (motive_1 := fun v x ζ => ∀ y, DRel gl h Λ' v y -> a0q x = true -> a0q y = true -> x = y) (motive_2 := fun vs l ζ => ∀ l', DRels gl h Λ' vs l' -> a0r l = true -> a0r l' = true -> l = l')
  (motive_3 := fun ζ ζ ζ => True) (motive_4 := fun ζ ζ ζ => True) ?_ ?_ ?_ ?_ ?_ ?_ ?_ ?_ ?_ ?_ ?_ ?_ ?_ ?_ ?_ r y c hx hy
 ·intro y c _ hy; cases c with
  | none => rfl
  | fn _ => exact Bool.noConfusion hy
 ·intro b y c _ hy; cases c with
  | bool _ => rfl
  | fn _ => exact Bool.noConfusion hy
 ·intro i t y c _ hy; cases c with
  | int _ _ => rfl
  | fn _ => exact Bool.noConfusion hy
 ·intro i t y c _ hy; cases c with
  | str _ _ => rfl
  | fn _ => exact Bool.noConfusion hy
 ·intro a vs n l e _ ih y c hx hy
  obtain ⟨l', rfl, r'⟩ := c4y e c hy
  exact congrArg D.tup (ih l' r' hx hy)
 ·intro a vs n l e _ _ ih y c hx hy
  obtain ⟨l', rfl, r'⟩ := c4z e c hy
  exact congrArg D.lst (ih l' r' hx hy)
 ·intro a es n l _ _ _ _ _ y _ hx _; exact Bool.noConfusion hx
 ·intro a es n l _ _ _ _ _ y _ hx _; exact Bool.noConfusion hx
 ·intro f v _ y _ hx _; exact Bool.noConfusion hx
 ·intro l' c _ _; cases c; rfl
 ·intro v x vs l _ _ ih1 ih2 l' c hx hy
  cases c with
  | cons a' b' =>
   obtain ⟨hx1, hx2⟩ := Bool.and_eq_true_iff.mp hx
   obtain ⟨hy1, hy2⟩ := Bool.and_eq_true_iff.mp hy
   erw [ih1 _ a' hx1 hy1, ih2 _ b' hx2 hy2]
 all_goals (intros; trivial)
end
noncomputable def eqAt (l l' : List D) (j : Nat) : Bool := match l[j]?, l'[j]? with
 | some x, some y => eqD x y
 | _, _ => true
theorem a9n (l : List D) : ∀ l' : List D, eqDs l l' = ((List.range (min l.length l'.length)).all (eqAt l l') && l.length == l'.length) := by
 induction l with
 | nil => intro l'; cases l' <;> rfl
 | cons x xs ih => intro l'; cases l' with
 | nil => rfl
 | cons y ys =>
  show (eqD x y && eqDs xs ys) = _
  erw [ih ys]
  have e : min (x :: xs).length (y :: ys).length = min xs.length ys.length + 1 := by simp [Nat.succ_min_succ]
  erw [e, List.range_succ_eq_map, List.all_cons, List.all_map]
  have e0 : eqAt (x :: xs) (y :: ys) 0 = eqD x y := rfl
  have e1 : (eqAt (x :: xs) (y :: ys) ∘ Nat.succ) = eqAt xs ys := by funext j; simp [eqAt]
  erw [e0, e1]
  simp [Bool.and_assoc]
theorem a0b {h : Heap} {a : Addr} {vs : List Value} {n : Nat} (e : h.get? a = some (LO vs n)) : h.IsList a vs.toArray := ⟨_, e, rfl, n, rfl⟩
theorem a0c {h : Heap} {a : Addr} {vs : List Value} {n : Nat} (e : h.get? a = some (TO vs n)) : h.IsTuple a vs.toArray := ⟨_, e, rfl, n, rfl⟩
theorem c5a {h : Heap} {a : Addr} {vs : List Value} {n : Nat} (e : h.get? a = some (LO vs n)) : h.PlainList a vs.toArray := ⟨n, e⟩
section
variable {gl : Str -> Option Value} {s : Shared} {Λ Λ' : Addr -> Prop}
theorem EqAt.of_rc {A : Around} {v u : Value} {b : Bool} (h : RcAt A s v u b) (hv : ∀ b t, v ≠ .float b t) (hs : v = u -> b = true) : EqAt A s v u b := fun prog w E Q hq => by
 unfold eqBool
 refine wpAny_holding (wpAny_ite_split (fun hab => ?_) (fun ζ => ?_))
 ·have e := hs (eq_of_beq hab)
  subst e
  exact wpAny_bind (wpAny_rule (wpAny_pure hq))
 ·cases v with
  | float b t => exact absurd rfl (hv b t)
  | _ => exact wpAny_bind (h prog w E _ (wpAny_truthy_bool hq))
theorem DRel.notFloat {v : Value} {x : D} (r : DRel gl s.heap Λ v x) (hx : a0q x = true) (b : UInt64) (t : Tok) : v ≠ .float b t := by
 cases r with
 | fn _ => exact ff hx
 | _ => intro h; cases h
theorem DRel.casesP {h : Heap} {G : Value -> D -> Prop} (g0 : G .none .none) (g1 : ∀ b, G (.bool b) (.bool b)) (g2 : ∀ i t, G (.int i t) (.int i)) (g3 : ∀ i t, G (.str i t) (.str i))
  (g4 : ∀ {a vs n l}, h.get? a = some (TO vs n) -> DRels gl h Λ vs l -> a0r l = true -> G (.ref a) (.tup l)) (g5 : ∀ {a vs n l}, h.get? a = some (LO vs n) -> DRels gl h Λ vs l -> a0r l = true -> G (.ref a) (.lst l))
  {v : Value} {x : D} (r : DRel gl h Λ v x) (hx : a0q x = true) : G v x := by
 cases r with
 | none => exact g0
 | bool b => exact g1 b
 | int i t => exact g2 i t
 | str i t => exact g3 i t
 | tup e r => exact g4 e r hx
 | lst e _ r => exact g5 e r hx
 | _ => exact ff hx
theorem a5e {l : List D} (h : a0r l = true) : ∀ d ∈ l, a0q d = true :=
 List.rec (motive := fun l => a0r l = true -> ∀ d ∈ l, a0q d = true) (fun ζ ζ h => nomatch h) (fun x xs ih h d m => have h := Bool.and_eq_true_iff.mp h; (List.mem_cons.mp m).elim (fun e => e ▸ h.1) (ih h.2 d)) l h
theorem c0k {l : List D} {n : Nat} (h : deps l <= n) : ∀ d ∈ l, dep d <= n :=
 List.rec (motive := fun l => deps l <= n -> ∀ d ∈ l, dep d <= n) (fun ζ ζ h => nomatch h) (fun x xs ih h d m => have h := Nat.max_le.mp h; (List.mem_cons.mp m).elim (fun e => e ▸ h.1) (ih h.2 d)) l h
noncomputable def RcP (gl : Str -> Option Value) (s : Shared) (Λ' : Addr -> Prop) (v : Value) (x : D) : Prop :=
 ∀ {A : Around} {u : Value} {y : D}, A.units + dep x < cLine -> DRel gl s.heap Λ' u y -> a0q x = true -> a0q y = true -> RcAt A s v u (eqD x y)
theorem c7k {vs us : List Value} {l l' : List D} (rx : DRels gl s.heap Λ vs l) (ih : ∀ (j : Nat) {v : Value} {x : D}, vs[j]? = some v -> l[j]? = some x -> RcP gl s Λ' v x) (ry : DRels gl s.heap Λ' us l') {A : Around} (hu : A.units + deps l < cLine) (hx : a0r l = true) (hy : a0r l' = true) (j : Nat) (h1 : j < vs.toArray.size) (h2 : j < us.toArray.size) :
  EqAt A s vs.toArray[j] us.toArray[j] (eqAt l l' j) := by
 have k1 : l[j]? = some (l[j]'(Nat.lt_of_lt_of_eq h1 rx.length)) := List.getElem?_eq_getElem _
 have k2 : l'[j]? = some (l'[j]'(Nat.lt_of_lt_of_eq h2 ry.length)) := List.getElem?_eq_getElem _
 generalize l[j]'(Nat.lt_of_lt_of_eq h1 rx.length) = x at k1
 generalize l'[j]'(Nat.lt_of_lt_of_eq h2 ry.length) = y at k2
 refine xEA (rx.get k1) fun v e1 a => ?_
 refine xEA (ry.get k2) fun u e2 b => ?_
 have p1 := a5e hx x (List.mem_of_getElem? k1)
 have p2 := a5e hy y (List.mem_of_getElem? k2)
 have q1 : vs.toArray[j] = v := Option.some.inj ((List.getElem?_eq_getElem h1).symm.trans e1)
 have q2 : us.toArray[j] = u := Option.some.inj ((List.getElem?_eq_getElem h2).symm.trans e2)
 have q3 : eqAt l l' j = eqD x y := by unfold eqAt; erw [k1, k2]
 erw [q1, q2, q3]
 exact EqAt.of_rc (ih j e1 k1 (Nat.lt_of_le_of_lt (Nat.add_le_add_left (c0k (Nat.le_refl _) x (List.mem_of_getElem? k1)) _) hu) b p1 p2) (a.notFloat p1) fun e => (a.unique (e ▸ b) p1 p2) ▸ a5d x p1
theorem lenA {vs us : List Value} {l l' : List D} (rx : DRels gl s.heap Λ vs l) (ry : DRels gl s.heap Λ' us l') {f : Nat -> Bool} : ((List.range (min vs.toArray.size us.toArray.size)).all f && vs.toArray.size == us.toArray.size) = ((List.range (min l.length l'.length)).all f && l.length == l'.length) := by
 erw [← rx.length, ← ry.length]; rfl
theorem rcT {vs us : List Value} {l l' : List D} {a b : Addr} {n m : Nat} {A : Around} (e : s.heap.get? a = some (TO vs n)) (rx : DRels gl s.heap Λ vs l) (ih : ∀ (j : Nat) {v : Value} {x : D}, vs[j]? = some v -> l[j]? = some x -> RcP gl s Λ' v x) (hu : A.units + (deps l + 1) < cLine) (hx : a0r l = true) (e' : s.heap.get? b = some (TO us m)) (ry : DRels gl s.heap Λ' us l') (hy : a0r l' = true) :
  RcAt A s (.ref a) (.ref b) (eqDs l l') /\ RcNeAt A s (.ref a) (.ref b) (!eqDs l l') := by
 have key := c7k (A := A.in1) rx ih ry (Nat.lt_of_le_of_lt (Nat.le_of_eq (Nat.succ_add _ _)) hu) hx hy
 have hu' := Nat.lt_of_le_of_lt (Nat.le_add_right _ _) hu
 erw [a9n l l', ← lenA rx ry]
 exact ⟨RcAt.tuples (a0c e) (a0c e') hu' key, RcNeAt.tuples (a0c e) (a0c e') hu' key⟩
theorem rcL {vs us : List Value} {l l' : List D} {a b : Addr} {n m : Nat} {A : Around} (e : s.heap.get? a = some (LO vs n)) (rx : DRels gl s.heap Λ vs l) (ih : ∀ (j : Nat) {v : Value} {x : D}, vs[j]? = some v -> l[j]? = some x -> RcP gl s Λ' v x) (hu : A.units + (deps l + 1) < cLine) (hx : a0r l = true) (e' : s.heap.get? b = some (LO us m)) (ry : DRels gl s.heap Λ' us l') (hy : a0r l' = true) :
  RcAt A s (.ref a) (.ref b) (eqDs l l') /\ RcNeAt A s (.ref a) (.ref b) (!eqDs l l') := by
 have key := c7k (A := A.in1) rx ih ry (Nat.lt_of_le_of_lt (Nat.le_of_eq (Nat.succ_add _ _)) hu) hx hy
 have hu' := Nat.lt_of_le_of_lt (Nat.le_add_right _ _) hu
 erw [a9n l l', ← lenA rx ry]
 by_cases hl : vs.toArray.size = us.toArray.size
 ·have k1 := RcAt.lists (a0b e) (a0b e') hl hu' key
  have k2 := RcNeAt.lists (a0b e) (a0b e') hl hu' key
  erw [← hl, Nat.min_self, beq_self_eq_true, Bool.and_true]
  exact ⟨k1, k2⟩
 ·erw [beq_eq_false_iff_ne.mpr hl, Bool.and_false]
  exact ⟨RcAt.lists_lengths (a0b e) (a0b e') (bne_iff_ne.mpr hl) hu', RcNeAt.lists_lengths (a0b e) (a0b e') (bne_iff_ne.mpr hl) hu'⟩
theorem rcD {v : Value} {x : D} (r : DRel gl s.heap Λ v x) : RcP gl s Λ' v x := by
 refine DRel.rec (motive_1 := fun v x ζ => RcP gl s Λ' v x) (motive_2 := fun vs l ζ => ∀ (j : Nat) {v : Value} {x : D}, vs[j]? = some v -> l[j]? = some x -> RcP gl s Λ' v x) (motive_3 := fun ζ ζ ζ => True) (motive_4 := fun ζ ζ ζ => True) ?_ ?_ ?_ ?_ ?_ ?_ ?_ ?_ ?_ ?_ ?_ ?_ ?_ ?_ ?_ r
 ·intro A u y hu c _ hy
  exact c.casesP (G := fun u y => RcAt A s .none u (eqD .none y)) RcAt.none_none RcAt.none_bool RcAt.none_int RcAt.none_str (fun e ζ ζ => RcAt.none_tuple (a0c e) hu) (fun e ζ ζ => RcAt.none_list (a0b e) hu) hy
 ·intro b A u y hu c _ hy
  exact c.casesP (G := fun u y => RcAt A s (.bool b) u (eqD (.bool b) y)) (RcAt.bool_none b) (RcAt.bool_bool b) (RcAt.bool_int b) (RcAt.bool_str b) (fun e ζ ζ => RcAt.bool_tuple b (a0c e) hu) (fun e ζ ζ => RcAt.bool_list b (a0b e) hu) hy
 ·intro b t A u y hu c _ hy
  exact c.casesP (G := fun u y => RcAt A s (.int b t) u (eqD (.int b) y)) (RcAt.int_none b t) (RcAt.int_bool b t) (RcAt.int_int b t) (RcAt.int_str b t) (fun e ζ ζ => RcAt.int_tuple b t (a0c e) hu) (fun e ζ ζ => RcAt.int_list b t (a0b e) hu) hy
 ·intro b t A u y hu c _ hy
  exact c.casesP (G := fun u y => RcAt A s (.str b t) u (eqD (.str b) y)) (RcAt.str_none b t) (RcAt.str_bool b t) (RcAt.str_int b t) (RcAt.str_str b t) (fun e ζ ζ => RcAt.str_tuple b t (a0c e) hu) (fun e ζ ζ => RcAt.str_list b t (a0b e) hu) hy
 ·intro a vs n l ex rx ih A u y hu c hx hy
  have hu' := Nat.lt_of_le_of_lt (Nat.le_add_right _ _) hu
  exact c.casesP (G := fun u y => RcAt A s (.ref a) u (eqD (.tup l) y)) (RcAt.tuple_none (a0c ex) hu') (fun b => RcAt.tuple_bool b (a0c ex) hu') (fun i t => RcAt.tuple_int i t (a0c ex) hu') (fun i t => RcAt.tuple_str i t (a0c ex) hu') (fun e r p => (rcT ex rx ih hu hx e r p).1) (fun e ζ ζ => RcAt.tuple_list (a0c ex) (a0b e) hu') hy
 ·intro a vs n l ex _ rx ih A u y hu c hx hy
  have hu' := Nat.lt_of_le_of_lt (Nat.le_add_right _ _) hu
  exact c.casesP (G := fun u y => RcAt A s (.ref a) u (eqD (.lst l) y)) (RcAt.list_none (a0b ex) hu') (fun b => RcAt.list_bool b (a0b ex) hu') (fun i t => RcAt.list_int i t (a0b ex) hu') (fun i t => RcAt.list_str i t (a0b ex) hu') (fun e ζ ζ => RcAt.list_tuple (a0b ex) (a0c e) hu') (fun e r p => (rcL ex rx ih hu hx e r p).1) hy
 ·exact fun ζ ζ ζ ζ ζ ζ ζ ζ ζ ζ hx ζ => ff hx
 ·exact fun ζ ζ ζ ζ ζ ζ ζ ζ ζ ζ hx ζ => ff hx
 ·exact fun ζ ζ ζ ζ ζ ζ hx ζ => ff hx
 ·exact fun ζ ζ ζ h ζ => nomatch h
 ·intro v x vs l _ _ ih1 ih2 j
  cases j with
  | zero => exact fun h1 h2 => Option.some.inj h1 ▸ Option.some.inj h2 ▸ ih1
  | succ j => exact fun h1 h2 => ih2 j h1 h2
 ·trivial
 ·exact fun ζ ζ ζ ζ => trivial
 ·trivial
 ·exact fun ζ ζ ζ ζ ζ ζ => trivial
theorem rcI {vs : List Value} {l : List D} (r : DRels gl s.heap Λ vs l) (j : Nat) {v : Value} {x : D} (h1 : vs[j]? = some v) (h2 : l[j]? = some x) : RcP gl s Λ' v x := by
 refine xEA (r.get h2) fun w e a => ?_
 exact Option.some.inj (h1.symm.trans e) ▸ rcD a
theorem eqD1 {A : Around} {v u : Value} {x y : D} (hu : A.units + dep x < cLine) (rx : DRel gl s.heap Λ v x) (ry : DRel gl s.heap Λ' u y) (hx : a0q x = true) (hy : a0q y = true) : EqAt A s v u (eqD x y) :=
 EqAt.of_rc (rcD rx hu ry hx hy) (rx.notFloat hx) fun e => (rx.unique (e ▸ ry) hx hy) ▸ a5d x hx
theorem rneD {A : Around} {v u : Value} {x y : D} (hu : A.units + dep x < cLine) (rx : DRel gl s.heap Λ v x) (ry : DRel gl s.heap Λ' u y) (hx : a0q x = true) (hy : a0q y = true) : RcNeAt A s v u (!eqD x y) := by
 have hu' := Nat.lt_of_le_of_lt (Nat.le_add_right _ _) hu
 exact rx.casesP (G := fun v x => A.units + dep x < cLine -> RcNeAt A s v u (!eqD x y))
  (fun ζ => ry.casesP (G := fun u y => RcNeAt A s .none u (!eqD .none y)) RcNeAt.none_none RcNeAt.none_bool RcNeAt.none_int RcNeAt.none_str (fun e ζ ζ => RcNeAt.none_tuple (a0c e) hu') (fun e ζ ζ => RcNeAt.none_list (a0b e) hu') hy)
  (fun b ζ => ry.casesP (G := fun u y => RcNeAt A s (.bool b) u (!eqD (.bool b) y)) (RcNeAt.bool_none b) (RcNeAt.bool_bool b) (RcNeAt.bool_int b) (RcNeAt.bool_str b) (fun e ζ ζ => RcNeAt.bool_tuple b (a0c e) hu') (fun e ζ ζ => RcNeAt.bool_list b (a0b e) hu') hy)
  (fun b t ζ => ry.casesP (G := fun u y => RcNeAt A s (.int b t) u (!eqD (.int b) y)) (RcNeAt.int_none b t) (RcNeAt.int_bool b t) (RcNeAt.int_int b t) (RcNeAt.int_str b t) (fun e ζ ζ => RcNeAt.int_tuple b t (a0c e) hu') (fun e ζ ζ => RcNeAt.int_list b t (a0b e) hu') hy)
  (fun b t ζ => ry.casesP (G := fun u y => RcNeAt A s (.str b t) u (!eqD (.str b) y)) (RcNeAt.str_none b t) (RcNeAt.str_bool b t) (RcNeAt.str_int b t) (RcNeAt.str_str b t) (fun e ζ ζ => RcNeAt.str_tuple b t (a0c e) hu') (fun e ζ ζ => RcNeAt.str_list b t (a0b e) hu') hy)
  (fun {a vs n l} ex rx px hu => ry.casesP (G := fun u y => RcNeAt A s (.ref a) u (!eqD (.tup l) y)) (RcNeAt.tuple_none (a0c ex) hu') (fun b => RcNeAt.tuple_bool b (a0c ex) hu') (fun i t => RcNeAt.tuple_int i t (a0c ex) hu') (fun i t => RcNeAt.tuple_str i t (a0c ex) hu') (fun e r p => (rcT ex rx (rcI rx) hu px e r p).2) (fun e ζ ζ => RcNeAt.tuple_list (a0c ex) (a0b e) hu') hy)
  (fun {a vs n l} ex rx px hu => ry.casesP (G := fun u y => RcNeAt A s (.ref a) u (!eqD (.lst l) y)) (RcNeAt.list_none (a0b ex) hu') (fun b => RcNeAt.list_bool b (a0b ex) hu') (fun i t => RcNeAt.list_int i t (a0b ex) hu') (fun i t => RcNeAt.list_str i t (a0b ex) hu') (fun e ζ ζ => RcNeAt.list_tuple (a0b ex) (a0c e) hu') (fun e r p => (rcL ex rx (rcI rx) hu px e r p).2) hy) hx hu
end
end Mine
end
section
open PySem PyProof.Rows PySem.SeqAt
namespace Mine
noncomputable def lk {K α : Type} [DecidableEq K] : List (K × α) -> K -> Option α
 | [], _ => none
 | (k', x) :: l, k => if k = k' then some x else lk l k
noncomputable def noL : Addr -> Prop := fun ζ => False
noncomputable def used (s : Shared) (a : Addr) : Prop := ∃ o, s.heap.get? a = some o
set_option tactic.hygienic true in
mutual
noncomputable def nolist : D -> Bool
 | .none | .bool _ | .int _ | .str _ | .fn _ => true
 | .tup l => nolists l
 | _ => false
noncomputable def nolists : List D -> Bool
 | [] => true
 | x :: xs => nolist x && nolists xs
end
noncomputable def c5b : Option O -> Option D
 | some (.lst l) => some (.lst l)
 | some (.dI l) => some (.dI l)
 | some (.dT l) => some (.dT l)
 | _ => none
noncomputable def oLst : Option O -> Option (List D)
 | some (.lst l) => some l
 | _ => none
theorem c0l {o : Option O} {l : List D} (e : oLst o = some l) : o = some (.lst l) := by
 cases o with
 | none => exact cNS e
 | some o => cases o with
  | lst l => exact congrArg (fun l => some (O.lst l)) (a0l e)
  | _ => exact cNS e
noncomputable def oTup : Option (List D) -> Option D
 | some l => some (.tup l)
 | none => none
noncomputable def c8z : Option D -> Option (List D) -> Option (List D)
 | some x, some xs => some (x :: xs)
 | _, _ => none
theorem b2u {o : Option (List D)} {x : D} (e : oTup o = some x) : ∃ l, o = some l /\ x = .tup l := by
 cases o with
 | none => exact cNS e
 | some l => exact ⟨l, rfl, (a0l e).symm⟩
theorem a9o {o : Option D} {p : Option (List D)} {xs : List D} (e : c8z o p = some xs) : ∃ x l, o = some x /\ p = some l /\ xs = x :: l := by
 cases o with
 | none => exact cNS e
 | some x => cases p with
  | none => exact cNS e
  | some l => exact ⟨x, l, rfl, rfl, (a0l e).symm⟩
set_option tactic.hygienic true in
mutual
noncomputable def a0h (σ : List O) : V -> Option D
 | .d x => some x
 | .a x => some x
 | .r i => c5b σ[i]?
 | .t l => oTup (a6q σ l)
noncomputable def a6q (σ : List O) : List V -> Option (List D)
 | [] => some []
 | v :: vs => c8z (a0h σ v) (a6q σ vs)
end
noncomputable def lstV (σ : List O) : V -> Option (List D)
 | .d (.lst l) => some l
 | .a (.lst l) => if nolists l then some l else none
 | .r i => oLst σ[i]?
 | _ => none
noncomputable def tupV : V -> Option (List D)
 | .d (.tup l) => some l
 | .a (.tup l) => if nolists l then some l else none
 | _ => none
section
variable {gl : Str -> Option Value} {X : Cx} {names : List Str} {ρ : List (Option V)} {σ : List O} {Λ Λ' Φ : Addr -> Prop} {ad : List Addr} {s : Shared} {h : Heap}
theorem DRel.noL {v : Value} {x : D} (r : DRel gl h Λ v x) : DRel gl h noL v x := r.keep (.weak fun ζ f => f.elim)
theorem DRels.noL {vs : List Value} {l : List D} (r : DRels gl h Λ vs l) : DRels gl h noL vs l := r.keep (.weak fun ζ f => f.elim)
theorem ERelI.noL {es : List DictEntry} {l : List (Int × D)} (r : ERelI gl h Λ es l) : ERelI gl h noL es l := r.keep (.weak fun ζ f => f.elim)
theorem ERelT.noL {es : List DictEntry} {l : List (List Int × D)} (r : ERelT gl h Λ es l) : ERelT gl h noL es l := r.keep (.weak fun ζ f => f.elim)
theorem DRel.nolist {v : Value} {x : D} (r : DRel gl h Λ v x) : Mine.nolist x = true -> DRel gl h Λ' v x :=
 DRel.rec (motive_1 := fun v x ζ => Mine.nolist x = true -> DRel gl h Λ' v x) (motive_2 := fun vs l ζ => Mine.nolists l = true -> DRels gl h Λ' vs l) (motive_3 := fun ζ ζ ζ => True) (motive_4 := fun ζ ζ ζ => True)
  (fun ζ => .none) (fun b ζ => .bool b) (fun i t ζ => .int i t) (fun i t ζ => .str i t) (fun e ζ ih n => .tup e (ih n)) (fun ζ ζ ζ ζ n => ff n) (fun ζ ζ ζ ζ ζ n => ff n) (fun ζ ζ ζ ζ ζ n => ff n) (fun e ζ => .fn e)
  (fun ζ => .nil) (fun ζ ζ a b n => .cons (a (Bool.and_eq_true_iff.mp n).1) (b (Bool.and_eq_true_iff.mp n).2)) trivial (fun ζ ζ ζ ζ => trivial) trivial (fun ζ ζ ζ ζ ζ ζ => trivial) r
theorem DRels.nolists {vs : List Value} {l : List D} (r : DRels gl h Λ vs l) : Mine.nolists l = true -> DRels gl h Λ' vs l :=
 DRels.rec (motive_1 := fun v x ζ => Mine.nolist x = true -> DRel gl h Λ' v x) (motive_2 := fun vs l ζ => Mine.nolists l = true -> DRels gl h Λ' vs l) (motive_3 := fun ζ ζ ζ => True) (motive_4 := fun ζ ζ ζ => True)
  (fun ζ => .none) (fun b ζ => .bool b) (fun i t ζ => .int i t) (fun i t ζ => .str i t) (fun e ζ ih n => .tup e (ih n)) (fun ζ ζ ζ ζ n => ff n) (fun ζ ζ ζ ζ ζ n => ff n) (fun ζ ζ ζ ζ ζ n => ff n) (fun e ζ => .fn e)
  (fun ζ => .nil) (fun ζ ζ a b n => .cons (a (Bool.and_eq_true_iff.mp n).1) (b (Bool.and_eq_true_iff.mp n).2)) trivial (fun ζ ζ ζ ζ => trivial) trivial (fun ζ ζ ζ ζ ζ ζ => trivial) r
theorem c0m {a : Addr} {x : D} (o : Option O) (k : ∀ o', o = some o' -> o' ≠ .dead -> ORel gl h Λ Φ ad a o') (e : c5b o = some x) : DRel gl h Mine.noL (.ref a) x := by
 cases o with
 | none => exact cNS e
 | some o => cases o with
  | lst l => obtain ⟨vs, n, h1, h2⟩ := k _ rfl nofun; exact a0l e ▸ .lst h1 (fun f => f) h2.noL
  | dI l => obtain ⟨vs, n, h1, h2, h3⟩ := k _ rfl nofun; exact a0l e ▸ .dI h1 (fun f => f) h2.noL h3
  | dT l => obtain ⟨vs, n, h1, h2, h3⟩ := k _ rfl nofun; exact a0l e ▸ .dT h1 (fun f => f) h2.noL h3
  | _ => exact cNS e
theorem a0z (S : St gl X names ρ σ Λ ad s) {v : Value} {val : V} {x : D} (r : VRel gl s.heap Λ X.Φ ad v val) (e : a0h σ val = some x) : DRel gl s.heap Mine.noL v x := by
 refine VRel.rec (motive_1 := fun v val ζ => ∀ x, a0h σ val = some x -> DRel gl s.heap Mine.noL v x) (motive_2 := fun vs vals ζ => ∀ xs, a6q σ vals = some xs -> DRels gl s.heap Mine.noL vs xs) ?_ ?_ ?_ ?_ ?_ ?_ r x e
 ·intro v x r y e; cases Option.some.inj (e : some x = some y); exact r.noL
 ·intro v x r y e; cases Option.some.inj (e : some x = some y); exact r.noL
 ·intro a i e' x e
  refine c0m (h := s.heap) (σ[i]?) (fun o hs hn => (S.objs i a o e' hs hn).2) e
 ·intro a vs n l e' _ ih x e
  obtain ⟨l', hs, rfl⟩ := b2u e
  exact .tup e' (ih l' hs)
 ·intro xs e; cases Option.some.inj (e : some [] = some xs); exact .nil
 ·intro v y vs l _ _ iha ihb xs e
  obtain ⟨y, ys, h1, h2, rfl⟩ := a9o e
  exact .cons (iha y h1) (ihb ys h2)
theorem a3a (S : St gl X names ρ σ Λ ad s) {v : Value} {val : V} {l : List D} (r : VRel gl s.heap Λ X.Φ ad v val) (e : lstV σ val = some l) : ∃ a vs n, v = .ref a /\ s.heap.get? a = some (LO vs n) /\ DRels gl s.heap (Un Λ X.Φ) vs l := by
 cases val with
 | d x => cases x with
  | lst l' => obtain ⟨a, vs, n, rfl, h1, _, h2⟩ := r.dInv.lstI; exact ⟨a, vs, n, rfl, h1, a0l e ▸ h2⟩
  | _ => exact cNS e
 | a x => cases x with
  | lst l' => obtain ⟨a, vs, n, rfl, h1, _, h2⟩ := r.aInv.lstI; exact ⟨a, vs, n, rfl, h1, (a2n e).2 ▸ h2.nolists (a2n e).1⟩
  | _ => exact cNS e
 | r i =>
  obtain ⟨a, rfl, e'⟩ := r.rInv
  obtain ⟨_, vs, n, h1, h2⟩ := S.objs i a _ e' (c0l e) nofun
  exact ⟨a, vs, n, rfl, h1, h2⟩
 | t l => exact cNS e
theorem b4w (S : St gl X names ρ σ Λ ad s) {v : Value} {val : V} {l : List D} (r : VRel gl s.heap Λ X.Φ ad v val) (e : tupV val = some l) : ∃ a vs n, v = .ref a /\ s.heap.get? a = some (TO vs n) /\ DRels gl s.heap (Un Λ X.Φ) vs l := by
 cases val with
 | d x => cases x with
  | tup l' => obtain ⟨a, vs, n, rfl, h1, h2⟩ := r.dInv.tupI; exact ⟨a, vs, n, rfl, h1, a0l e ▸ h2⟩
  | _ => exact cNS e
 | a x => cases x with
  | tup l' => obtain ⟨a, vs, n, rfl, h1, h2⟩ := r.aInv.tupI; exact ⟨a, vs, n, rfl, h1, (a2n e).2 ▸ h2.nolists (a2n e).1⟩
  | _ => exact cNS e
 | r i => exact cNS e
 | t l => exact cNS e
end
noncomputable def Gives (W : World0) (A : Around) (m : Sem Value) (s : Shared) (F : Addr -> Prop) (r : D) : Prop :=
 ∀ L, (∃ mm, s.heap.Ns L mm) -> ∀ Q E, (∀ v s', Kept L s s' -> DRel W.gl s'.heap F v r -> Q v s') -> wpAny (model W.p W.w) A m Q E s
section
variable {W : World0} {k : Nat} {A : Around} {s : Shared} {F : Addr -> Prop}
theorem a1p {L : Addr} {o : Obj} {t : Nat} : Kept L s { s with heap := s.heap.push o, toks := t } := .of_keeps (fun ζ ζ e => Heap.get?_push_of_some o e) rfl rfl
theorem b0r : ¬ used s s.heap.objs.size := fun ⟨o, e⟩ => Nat.lt_irrefl _ (Heap.lt_size e)
theorem Gives.int {m : Sem Value} {i : Int} (h : ∀ Q E, (∀ t t', Q (.int i t) { s with toks := t' }) -> wpAny (model W.p W.w) A m Q E s) : Gives W A m s F (.int i) :=
 fun L hL Q E q => h Q E fun t t' => q _ _ .toks (.int i t)
theorem Gives.bool {m : Sem Value} {b : Bool} (h : ∀ Q E, (∀ t', Q (.bool b) { s with toks := t' }) -> wpAny (model W.p W.w) A m Q E s) : Gives W A m s F (.bool b) :=
 fun L hL Q E q => h Q E fun t' => q _ _ .toks (.bool b)
theorem DRels.push {o : Obj} {vs : List Value} {l : List D} (r : DRels W.gl s.heap F vs l) : DRels W.gl (s.heap.push o) F vs l := r.keep (.of_keeps fun ζ ζ e => Heap.get?_push_of_some o e)
theorem Gives.lst {m : Sem Value} {vs : List Value} {l : List D} {n : Nat} (hF : ∀ a, F a -> used s a) (r : DRels W.gl s.heap F vs l)
  (h : ∀ Q E, (∀ t', Q (.ref s.heap.objs.size) { s with heap := s.heap.push (LO vs n), toks := t' }) -> wpAny (model W.p W.w) A m Q E s) : Gives W A m s F (.lst l) :=
 fun L hL Q E q => h Q E fun t' => q _ _ a1p (.lst (Heap.get?_push_size _ rfl) (fun f => b0r (hF _ f)) r.push)
theorem Gives.tup {m : Sem Value} {vs : List Value} {l : List D} {n : Nat} (r : DRels W.gl s.heap F vs l)
  (h : ∀ Q E, (∀ t', Q (.ref s.heap.objs.size) { s with heap := s.heap.push (TO vs n), toks := t' }) -> wpAny (model W.p W.w) A m Q E s) : Gives W A m s F (.tup l) :=
 fun L hL Q E q => h Q E fun t' => q _ _ a1p (.tup (Heap.get?_push_size _ rfl) r.push)
variable {gl : Str -> Option Value} {X : Cx} {names : List Str} {ρ : List (Option V)} {σ : List O} {Λ : Addr -> Prop} {ad : List Addr}
theorem St.usedF (S : St gl X names ρ σ Λ ad s) : ∀ a, Un Λ X.Φ a -> used s a := fun a h => h.elim (fun l => S.lt a l) fun l => by
 obtain ⟨o, e⟩ := S.phi a l
 exact ⟨o, S.keep a o e⟩
theorem St.ns (S : St gl X names ρ σ Λ ad s) : ∃ m, s.heap.Ns X.env.locals m := let ⟨m, _, n, _⟩ := S.vars; ⟨m, n⟩
theorem Gives.post {m : Sem Value} {r : D} {Q : V -> List O -> Prop} (S : St W.gl X names ρ σ Λ ad s) (g : Gives W X.A m s (Un Λ X.Φ) r) (q : Q (.d r) σ) :
  wpAny (model W.p W.w) X.A m (Post W.gl X names ρ σ Λ ad s Q) (fun ζ ζ => False) s :=
 g X.env.locals S.ns _ _ fun v s' kk dr => Post.pure S kk (.d dr) q
end
end Mine
end
section
open PySem PyProof.Rows PySem.SeqAt
namespace Mine
noncomputable def binI : Operator -> Int -> Int -> Option Int
 | .Add, a, b => some (a + b)
 | .Sub, a, b => some (a - b)
 | .Mult, a, b => some (a * b)
 | .FloorDiv, a, b => some (a.fdiv b)
 | .Mod, a, b => some (a.fmod b)
 | .Pow, a, n => some (a ^ n.toNat)
 | _, _, _ => none
noncomputable def c9a : Operator -> Int -> Int -> Prop
 | .Mult, a, b => (-(2 ^ 64) < a /\ a < 2 ^ 64) ∨ (-(2 ^ 64) < b /\ b < 2 ^ 64)
 | .FloorDiv, _, b => b ≠ 0 /\ b.natAbs < 1073741824
 | .Mod, _, b => b ≠ 0
 | .Pow, a, n => 0 <= n /\ (Builtin.Int.intBits a : Int) * n <= 2 ^ 27
 | _, _, _ => True
inductive BinV : Operator -> List O -> V -> V -> D -> Prop
 | int {op : Operator} {σ : List O} {va vb : V} {a b r : Int} : a0h σ va = some (.int a) -> a0h σ vb = some (.int b) -> binI op a b = some r -> c9a op a b -> BinV op σ va vb (.int r)
 | addL {σ : List O} {va vb : V} {l l' : List D} : lstV σ va = some l -> lstV σ vb = some l' -> l.length + l'.length <= 16777216 -> BinV .Add σ va vb (.lst (l ++ l'))
 | addT {σ : List O} {va vb : V} {l l' : List D} : tupV va = some l -> tupV vb = some l' -> l.length + l'.length <= 16777216 -> BinV .Add σ va vb (.tup (l ++ l'))
 | mulL {σ : List O} {va vb : V} {l : List D} {n : Int} : lstV σ va = some l -> a0h σ vb = some (.int n) -> n < 2 ^ 63 -> -(2 ^ 63) <= n -> l.length * n.toNat <= 16777216 -> BinV .Mult σ va vb (.lst (List.replicate n.toNat l).flatten)
section
variable {W : World0} {k : Nat} {A : Around} {s : Shared} {F : Addr -> Prop}
theorem a2o (vs : List Value) : ∀ (n : Nat) (acc : Array Value), List.foldl (fun x1 x2 => x1 ++ x2) acc (List.replicate n vs.toArray) = acc ++ ((List.replicate n vs).flatten).toArray
 | 0, acc => by simp
 | n + 1, acc => by
  erw [List.replicate_succ, List.foldl_cons, a2o vs n, List.replicate_succ, List.flatten_cons]
  simp
theorem DRels.replicate {gl : Str -> Option Value} {h : Heap} {vs : List Value} {l : List D} (r : DRels gl h F vs l) : ∀ n : Nat, DRels gl h F (List.replicate n vs).flatten (List.replicate n l).flatten
 | 0 => .nil
 | n + 1 => by erw [List.replicate_succ, List.replicate_succ, List.flatten_cons, List.flatten_cons]; exact r.append (r.replicate n)
theorem a7u (hF : ∀ a, F a -> used s a) {a b : Addr} {vs ws : List Value} {n n2 : Nat} {l l' : List D} (h1 : s.heap.get? a = some (LO vs n)) (h2 : s.heap.get? b = some (LO ws n2))
  (r1 : DRels W.gl s.heap F vs l) (r2 : DRels W.gl s.heap F ws l') (hsz : l.length + l'.length <= 16777216) : Gives W A (binaryOp .Add (.ref a) (.ref b)) s F (.lst (l ++ l')) := by
 refine Gives.lst (n := 0) hF (r1.append r2) fun Q E q => ?_
 have e : vs.toArray ++ ws.toArray = (vs ++ ws).toArray := by simp
 refine concat_meets ⟨_, h1, rfl⟩ ⟨_, h2, rfl⟩ noFill_list_add seq_list_add PySem.F.slot_list_add PySem.F.entry_list_add (PySem.F.args_list_add_2 _ _)
  (list_addW a b vs.toArray ws.toArray n n2 none none #[] #[] (by simp only [List.size_toArray]; erw [r1.length, r2.length]; simpa [sizeLine] using hsz)) ⟨h1, h2, ?_⟩
 erw [e]
 exact q s.toks
theorem a9c (hF : ∀ a, F a -> used s a) {a : Addr} {vs : List Value} {n : Nat} {l : List D} {x : Int} {u : Tok} (h1 : s.heap.get? a = some (LO vs n))
  (r1 : DRels W.gl s.heap F vs l) (hhi : x < 2 ^ 63) (hlo : -(2 ^ 63) <= x) (hsz : l.length * x.toNat <= 16777216) : Gives W A (binaryOp .Mult (.ref a) (.int x u)) s F (.lst (List.replicate x.toNat l).flatten) := by
 refine Gives.lst (n := 0) hF (r1.replicate x.toNat) fun Q E q => ?_
 have hsz' : vs.toArray.size * x.toNat <= 2 ^ 24 := by erw [List.size_toArray, r1.length]; exact hsz
 refine wpAny_binaryOp_repeat_ref (T := "list") (U := "int") (by decide) ⟨_, h1, rfl⟩ (fun s' => typeIs_int s' x u) noFill_list_mul PySem.F.fills_int_mul PySem.F.slot_int_rmul repeat_list PySem.F.slot_int_index.lookup
  (call_meets PySem.F.slot_int_rmul (typeIs_int s x u) PySem.F.entry_int_rmul (PySem.F.args_int_rmul_2 _ _) (int___rmul___int_list x u a vs.toArray n)
   ⟨h1, rfl, ⟨_, h1, rfl⟩, call_meets PySem.F.slot_list_mul ⟨_, h1, rfl⟩ PySem.F.entry_list_mul (PySem.F.args_list_mul_2 _ _)
    (AutoListH.list___mul___list_int_3 a vs.toArray n x u (by simp [Builtin.List.listFitsIndex]; omega) (by omega) (by simp [Builtin.List.listTooLong, sizeLine]; simp at hsz'; exact om0 hsz'))
    ⟨h1, ?_⟩⟩)
 have e : List.foldl (fun x1 x2 => x1 ++ x2) #[] (List.replicate (if vs.toArray.isEmpty = true then 0 else x.toNat) vs.toArray) = (List.replicate x.toNat vs).flatten.toArray := by
  cases vs with
  | nil =>
   simp
  | cons v vs' =>
   have : ((v :: vs').toArray.isEmpty) = false := by simp
   erw [this]
   simp only [Bool.false_eq_true, if_false]
   erw [a2o]; simp
 erw [e]
 exact q s.toks
theorem a6y {a b : Addr} {vs ws : List Value} {n n2 : Nat} {l l' : List D} (h1 : s.heap.get? a = some (TO vs n)) (h2 : s.heap.get? b = some (TO ws n2))
  (r1 : DRels W.gl s.heap F vs l) (r2 : DRels W.gl s.heap F ws l') (hsz : l.length + l'.length <= 16777216) : Gives W A (binaryOp .Add (.ref a) (.ref b)) s F (.tup (l ++ l')) := by
 have e : vs.toArray ++ ws.toArray = (vs ++ ws).toArray := by simp
 by_cases hv : vs = []
 ·subst hv
  cases r1
  intro L hL Q E q
  exact concat_meets ⟨_, h1, rfl⟩ ⟨_, h2, rfl⟩ noFill_tuple_add seq_tuple_add PySem.F.slot_tuple_add PySem.F.entry_tuple_add (PySem.F.args_tuple_add_2 _ _)
   (tuple_addW0 a b #[] ws.toArray n n2 none none #[] #[] (by simp)) ⟨h1, h2, q _ s .refl (.tup h2 r2)⟩
 ·by_cases hw : ws = []
  ·subst hw
   cases r2
   intro L hL Q E q
   exact concat_meets ⟨_, h1, rfl⟩ ⟨_, h2, rfl⟩ noFill_tuple_add seq_tuple_add PySem.F.slot_tuple_add PySem.F.entry_tuple_add (PySem.F.args_tuple_add_2 _ _)
    (tuple_addW1 a b vs.toArray #[] n n2 none none #[] #[] (by simpa using hv) (by simp)) ⟨h1, h2, q _ s .refl (.tup h1 (by simpa using r1))⟩
  ·refine Gives.tup (n := 0) (r1.append r2) fun Q E q => ?_
   refine concat_meets ⟨_, h1, rfl⟩ ⟨_, h2, rfl⟩ noFill_tuple_add seq_tuple_add PySem.F.slot_tuple_add PySem.F.entry_tuple_add (PySem.F.args_tuple_add_2 _ _)
    (tuple_addW2 a b vs.toArray ws.toArray n n2 none none #[] #[] (by simpa using hv) (by simpa using hw) (by simp only [List.size_toArray]; erw [r1.length, r2.length]; simpa [sizeLine] using hsz)) ⟨h1, h2, ?_⟩
   erw [e]
   exact q s.toks
variable {X : Cx} {names : List Str} {ρ : List (Option V)} {σ : List O} {Λ : Addr -> Prop} {ad : List Addr}
theorem b8l (S : St W.gl X names ρ σ Λ ad s) {op : Operator} {va vb : V} {r : D} {v u : Value} (b : BinV op σ va vb r) (rv : VRel W.gl s.heap Λ X.Φ ad v va) (ru : VRel W.gl s.heap Λ X.Φ ad u vb) :
  Gives W X.A (binaryOp op v u) s (Un Λ X.Φ) r := by
 cases b with
 | int e1 e2 e3 e4 =>
  obtain ⟨t1, rfl⟩ := (a0z S rv e1).intI
  obtain ⟨t2, rfl⟩ := (a0z S ru e2).intI
  cases op with
  | Add => cases e3; exact .int fun Q E q => add_int (q _ _)
  | Sub => cases e3; exact .int fun Q E q => sub_int (q _ _)
  | Mult =>
   cases e3
   exact .int fun Q E q => mul_int (q _ _) (e4.elim (fun e4 => IntMulOk.of_left (intBits_le_64 e4.1 e4.2)) fun e4 => IntMulOk.of_right (intBits_le_64 e4.1 e4.2))
  | FloorDiv => cases e3; exact .int fun Q E q => floordiv_int e4.1 (q _ _) (.inl (PyProof.noPylong_small e4.2))
  | Mod => cases e3; exact .int fun Q E q => mod_int e4 (q _ _)
  | Pow => cases e3; exact .int fun Q E q => pow_int e4.1 e4.2 (q _ _)
  | _ => exact dNS e3
 | addL e1 e2 e3 =>
  obtain ⟨a, vs, n, rfl, h1, r1⟩ := a3a S rv e1
  obtain ⟨b, ws, n2, rfl, h2, r2⟩ := a3a S ru e2
  exact a7u S.usedF h1 h2 r1 r2 e3
 | addT e1 e2 e3 =>
  obtain ⟨a, vs, n, rfl, h1, r1⟩ := b4w S rv e1
  obtain ⟨b, ws, n2, rfl, h2, r2⟩ := b4w S ru e2
  exact a6y h1 h2 r1 r2 e3
 | mulL e1 e2 e3 e4 e5 =>
  obtain ⟨a, vs, n, rfl, h1, r1⟩ := a3a S rv e1
  obtain ⟨t2, rfl⟩ := (a0z S ru e2).intI
  exact a9c S.usedF h1 r1 e3 e4 e5
inductive BinQ (op : Operator) (σ : List O) (va vb : V) (Q : V -> List O -> Prop) : Prop
 | mk (r : D) (h : BinV op σ va vb r) (q : Q (.d r) σ) : BinQ op σ va vb Q
theorem TE.bin {op : Operator} {a b : CE} {Q : V -> List O -> Prop} (t : TE W k a ρ σ fun va σ1 => TE W k b ρ σ1 fun vb σ2 => BinQ op σ2 va vb Q) : TE W k (.bin op a b) ρ σ Q :=
 fun names sc E he X hk hr hw Λ ad s S => by
  replace he := c8u he; obtain ⟨l, o, r, pos, rfl, he⟩ := he
  ·skip
   simp only [Bool.and_eq_true, beq_iff_eq] at he
   obtain ⟨⟨rfl, ha⟩, hb⟩ := he
   refine wpAny_BinOp (TE.two (F := binaryOp op) (t.mono fun va σ1 t₁ => t₁.mono fun vb σ2 h => ?_) ha hb hk hr hw S)
   obtain ⟨r, hb, q⟩ := h
   intro names X Λ ad s x y hr hw S rx ry
   exact (b8l S hb rx ry).post S q
end
end Mine
end
section
open PySem PyProof.Rows PySem.SeqAt
namespace Mine
noncomputable def put {K α : Type} [DecidableEq K] (l : List (K × α)) (k : K) (x : α) : List (K × α) :=
 if (lk l k).isSome then l.map (fun kv => if kv.1 = k then (kv.1, x) else kv) else l ++ [(k, x)]
section
variable {gl : Str -> Option Value} {h h' : Heap} {F F' : Addr -> Prop} {p : Program} {w : World}
inductive KVI (gl : Str -> Option Value) (h : Heap) (F : Addr -> Prop) : List (Int × Value) -> List (Int × D) -> Prop
 | nil : KVI gl h F [] []
 | cons {k : Int} {v : Value} {x : D} {kvs : List (Int × Value)} {l : List (Int × D)} : DRel gl h F v x -> KVI gl h F kvs l -> KVI gl h F ((k, v) :: kvs) ((k, x) :: l)
theorem ERelI.pairs {es : List DictEntry} {l : List (Int × D)} (r : ERelI gl h F es l) : ∃ kvs, Pairs (intKind p w) es kvs /\ (∀ e ∈ es, ∃ k, (intKind p w).is k e.key = true /\ e.hash = (intKind p w).hash k) /\ KVI gl h F kvs l := by
 induction l generalizing es with
 | nil => cases r; exact ⟨[], .nil, (fun ζ h => nomatch h), .nil⟩
 | cons _ _ ih => cases r with
  | @cons k t v x es l r rs =>
   refine xEAA (ih rs) fun kvs h1 h2 h3 => ?_
   have hi : (intKind p w).is k (.int k t) = true := by simp [intKind, Value.isInt]
   exact ⟨(k, v) :: kvs, .cons hi rfl h1, fun e he => (List.mem_cons.mp he).elim (fun q => q ▸ ⟨k, hi, rfl⟩) (h2 e), .cons r h3⟩
theorem KVI.keys {kvs : List (Int × Value)} {l : List (Int × D)} (r : KVI gl h F kvs l) : kvs.map (·.1) = l.map (·.1) := by
 induction r with
 | nil => rfl
 | cons _ _ ih => erw [List.map_cons, List.map_cons, ih]
theorem KVI.keep (K : Keep F F' h h') {kvs : List (Int × Value)} {l : List (Int × D)} (r : KVI gl h F kvs l) : KVI gl h' F' kvs l := by
 induction r with
 | nil => exact .nil
 | cons a _ ih => exact .cons (a.keep K) ih
theorem KVI.back {kvs : List (Int × Value)} {es : List DictEntry} {l : List (Int × D)} (hp : Pairs (intKind p w) es kvs) (he : ∀ e ∈ es, ∃ k, (intKind p w).is k e.key = true /\ e.hash = (intKind p w).hash k) (r : KVI gl h F kvs l) : ERelI gl h F es l := by
 induction hp generalizing l with
 | nil => cases r; exact .nil
 | @cons e kv es kvs h1 h2 hp ih =>
  cases r with
  | @cons k v x kvs l r rs =>
   obtain ⟨t, ht⟩ := Value.isInt_shape h1
   refine xEA (he e List.mem_cons_self) fun k' hk1 hk2 => ?_
   obtain ⟨t', ht'⟩ := Value.isInt_shape hk1
   rw [ht] at ht'
   have hkk : k' = k := by injection ht' with a b; exact a.symm
   obtain ⟨eh, ek, ev⟩ := e
   simp only at ht h2 hk2
   subst ht h2 hk2 hkk
   exact .cons r (ih (fun e' h' => he e' (List.mem_cons_of_mem _ h')) rs)
theorem KVI.any {kvs : List (Int × Value)} {l : List (Int × D)} (r : KVI gl h F kvs l) (k : Int) : kvs.any (fun kv => kv.1 = k) = (lk l k).isSome := by
 induction r with
 | nil => rfl
 | @cons k' v x kvs l r _ ih =>
  erw [List.any_cons, ih]
  by_cases hk : k' = k
  ·subst hk; simp [lk]
  ·simp only [lk]; rw [if_neg fun e => hk e.symm]; simp [hk]
theorem KVI.map {kvs : List (Int × Value)} {l : List (Int × D)} {k : Int} {v : Value} {x : D} (r : KVI gl h F kvs l) (d : DRel gl h F v x) :
  KVI gl h F (kvs.map fun kv => if kv.1 = k then (kv.1, v) else kv) (l.map fun kv => if kv.1 = k then (kv.1, x) else kv) := by
 induction r with
 | nil => exact .nil
 | @cons k' v' x' kvs l r _ ih =>
  erw [List.map_cons, List.map_cons]
  by_cases hk : k' = k
  ·simp only [hk, if_true]; exact .cons d ih
  ·simp only [hk, if_false]; exact .cons r ih
theorem KVI.snoc {kvs : List (Int × Value)} {l : List (Int × D)} {k : Int} {v : Value} {x : D} (r : KVI gl h F kvs l) (d : DRel gl h F v x) : KVI gl h F (kvs ++ [(k, v)]) (l ++ [(k, x)]) := by
 induction r with
 | nil => exact .cons d .nil
 | cons r _ ih => exact .cons r ih
theorem KVI.stored {kvs : List (Int × Value)} {l : List (Int × D)} {k : Int} {v : Value} {x : D} (r : KVI gl h F kvs l) (d : DRel gl h F v x) : KVI gl h F (stored kvs k v) (put l k x) := by
 unfold PySem.stored put
 erw [r.any k]
 split
 ·exact r.map d
 ·exact r.snoc d
theorem a7v {a : Addr} {es : List DictEntry} {n : Nat} {l : List (Int × D)} (e : h.get? a = some (DO es n)) (r : ERelI gl h F es l) (nd : (l.map (·.1)).Nodup) :
  ∃ kvs, h.DictOf (intKind p w) a kvs /\ KVI gl h F kvs l := by
 refine xEAA (r.pairs (p := p) (w := w)) fun kvs h1 h2 h3 => ?_
 exact ⟨kvs, ⟨_, es.toArray, n, e, ⟨rfl, rfl, rfl⟩, rfl, fun e' he => h2 e' (by simpa using he), h1, by erw [h3.keys]; exact nd⟩, h3⟩
theorem c9b {a : Addr} {kvs : List (Int × Value)} {l : List (Int × D)} (x : h.DictOf (intKind p w) a kvs) (r : KVI gl h F kvs l) :
  ∃ es n, h.get? a = some (DO es n) /\ ERelI gl h F es l /\ (l.map (·.1)).Nodup := by
 obtain ⟨⟨c, d, dt, sl⟩, es, ep, ho, ⟨h1, h2, h3⟩, hd, hk, hp, hn⟩ := x
 simp only at h1 h2 h3 hd
 subst h1 h2 h3 hd
 refine ⟨es.toList, ep, by simpa [DO] using ho, r.back hp (fun e he => hk e (by simpa using he)), by erw [← r.keys]; exact hn⟩
inductive KVT (gl : Str -> Option Value) (h : Heap) (F : Addr -> Prop) : List (List Int × Addr × Value) -> List (List Int × D) -> Prop
 | nil : KVT gl h F [] []
 | cons {k : List Int} {a : Addr} {vs : List Value} {n : Nat} {v : Value} {x : D} {xs : List (List Int × Addr × Value)} {l : List (List Int × D)} :
  h.get? a = some (TO vs n) -> IntsAre vs k -> DRel gl h F v x -> KVT gl h F xs l -> KVT gl h F ((k, a, v) :: xs) ((k, x) :: l)
theorem b0s {vs : List Value} {ks : List Int} (r : IntsAre vs ks) : ItemsAre (intKind p w) ks vs := by
 induction r with
 | nil => exact .nil
 | cons n t _ ih => exact .cons (by simp [intKind, Value.isInt]) ih
theorem a1t {a : Addr} {vs : List Value} {n : Nat} {ks : List Int} (e : h.get? a = some (TO vs n)) (i : IntsAre vs ks) : (tupleKind (intKind p w)).is h ks a :=
 ⟨_, vs.toArray, n, e, rfl, rfl, by simpa using b0s i⟩
theorem ERelT.heap {es : List DictEntry} {l : List (List Int × D)} (r : ERelT gl h F es l) : ∃ xs, es = xs.map (entryOfKey (tupleKind (intKind p w))) /\ KVT gl h F xs l := by
 induction l generalizing es with
 | nil => cases r; exact ⟨[], rfl, .nil⟩
 | cons _ _ ih => cases r with
  | @cons ks a _ _ v _ _ _ e i r rs =>
   refine xEA (ih rs) fun xs h1 h2 => ?_
   exact ⟨(ks, a, v) :: xs, by erw [List.map_cons, ← h1]; rfl, .cons e i r h2⟩
theorem KVT.keys {xs : List (List Int × Addr × Value)} {l : List (List Int × D)} (r : KVT gl h F xs l) : xs.map (·.1) = l.map (·.1) := by
 induction r with
 | nil => rfl
 | cons _ _ _ _ ih => erw [List.map_cons, List.map_cons, ih]
theorem KVT.is {xs : List (List Int × Addr × Value)} {l : List (List Int × D)} (r : KVT gl h F xs l) : ∀ x ∈ xs, (tupleKind (intKind p w)).is h x.1 x.2.1 := by
 induction r with
 | nil => intro _ hx; cases hx
 | cons e i _ _ ih =>
  intro x hx
  rcases List.mem_cons.mp hx with rfl | hx
  ·exact a1t e i
  ·exact ih x hx
theorem KVT.keep (K : Keep F F' h h') {xs : List (List Int × Addr × Value)} {l : List (List Int × D)} (r : KVT gl h F xs l) : KVT gl h' F' xs l := by
 induction r with
 | nil => exact .nil
 | cons e i a _ ih => exact .cons (K.tups _ _ _ e) i (a.keep K) ih
theorem KVT.back {xs : List (List Int × Addr × Value)} {l : List (List Int × D)} (r : KVT gl h F xs l) : ERelT gl h F (xs.map (entryOfKey (tupleKind (intKind p w)))) l := by
 induction r with
 | nil => exact .nil
 | cons e i a _ ih => exact .cons e i a ih
theorem KVT.lookup {xs : List (List Int × Addr × Value)} {l : List (List Int × D)} (r : KVT gl h F xs l) (k : List Int) : (atKey xs k = none /\ lk l k = none) ∨ ∃ b v x, atKey xs k = some (b, v) /\ lk l k = some x /\ DRel gl h F v x := by
 induction r with
 | nil => exact .inl ⟨rfl, rfl⟩
 | @cons k' a vs n v x xs l e i r _ ih =>
  by_cases hk : k' = k
  ·subst hk; exact .inr ⟨a, v, x, by simp [atKey], by simp [lk], r⟩
  ·have e1 : atKey ((k', a, v) :: xs) k = atKey xs k := by simp [atKey, hk]
   have e2 : lk ((k', x) :: l) k = lk l k := by
    simp only [lk]; rw [if_neg fun e => hk e.symm]
   erw [e1, e2]; exact ih
theorem KVT.isSome {xs : List (List Int × Addr × Value)} {l : List (List Int × D)} (r : KVT gl h F xs l) (k : List Int) : (atKey xs k).isSome = (lk l k).isSome := by
 rcases r.lookup k with ⟨a, b⟩ | ⟨b, v, x, e1, e2, _⟩
 ·erw [a, b]; rfl
 ·erw [e1, e2]; rfl
theorem KVT.map {xs : List (List Int × Addr × Value)} {l : List (List Int × D)} {k : List Int} {v : Value} {x : D} (r : KVT gl h F xs l) (d : DRel gl h F v x) :
  KVT gl h F (xs.map (putAt k v)) (l.map fun kv => if kv.1 = k then (kv.1, x) else kv) := by
 induction r with
 | nil => exact .nil
 | @cons k' a vs n v' x' xs l e i r _ ih =>
  erw [List.map_cons, List.map_cons]
  by_cases hk : k' = k
  ·simp only [putAt, hk, if_true]; subst hk; exact .cons e i d ih
  ·simp only [putAt, hk, if_false]; exact .cons e i r ih
theorem KVT.snoc {xs : List (List Int × Addr × Value)} {l : List (List Int × D)} {k : List Int} {a : Addr} {vs : List Value} {n : Nat} {v : Value} {x : D} (r : KVT gl h F xs l) (e : h.get? a = some (TO vs n)) (i : IntsAre vs k) (d : DRel gl h F v x) : KVT gl h F (xs ++ [(k, a, v)]) (l ++ [(k, x)]) := by
 induction r with
 | nil => exact .cons e i d .nil
 | cons e' i' r _ ih => exact .cons e' i' r ih
theorem KVT.stored {xs : List (List Int × Addr × Value)} {l : List (List Int × D)} {k : List Int} {a : Addr} {vs : List Value} {n : Nat} {v : Value} {x : D} (r : KVT gl h F xs l) (e : h.get? a = some (TO vs n)) (i : IntsAre vs k) (d : DRel gl h F v x) :
  KVT gl h F (storedH xs k a v) (put l k x) := by
 unfold storedH put
 erw [← r.isSome k]
 split
 ·exact r.map d
 ·exact r.snoc e i d
theorem b2v {a : Addr} {es : List DictEntry} {n : Nat} {l : List (List Int × D)} (e : h.get? a = some (DO es n)) (r : ERelT gl h F es l) (nd : (l.map (·.1)).Nodup) :
  ∃ xs, h.DictOfH (tupleKind (intKind p w)) a xs /\ KVT gl h F xs l := by
 refine xEA (r.heap (p := p) (w := w)) fun xs h1 h2 => ?_
 exact ⟨xs, ⟨_, es.toArray, n, e, ⟨rfl, rfl, rfl⟩, rfl, by simpa using h1, h2.is, by erw [h2.keys]; exact nd⟩, h2⟩
theorem b4x {a : Addr} {xs : List (List Int × Addr × Value)} {l : List (List Int × D)} (x : h.DictOfH (tupleKind (intKind p w)) a xs) (r : KVT gl h F xs l) :
  ∃ es n, h.get? a = some (DO es n) /\ ERelT gl h F es l /\ (l.map (·.1)).Nodup := by
 obtain ⟨⟨c, d, dt, sl⟩, es, ep, ho, ⟨h1, h2, h3⟩, hd, hk, hp, hn⟩ := x
 simp only at h1 h2 h3 hd
 subst h1 h2 h3 hd
 refine ⟨es.toList, ep, by simpa [DO] using ho, ?_, by erw [← r.keys]; exact hn⟩
 erw [hk]; exact r.back
end
end Mine
end
section
open PySem PyProof.Rows PySem.SeqAt
namespace Mine
section
variable {W : World0} {k : Nat} {A : Around} {s : Shared} {F : Addr -> Prop}
variable {X : Cx} {names : List Str} {ρ : List (Option V)} {σ : List O} {Λ : Addr -> Prop} {ad : List Addr}
theorem Room.units {A : Around} {k : Nat} (h : Room A k) {n : Nat} (hn : n <= 200) : A.units + n < cLine := by
 have := h.2.2; exact om1 this hn
theorem Room.units1 {A : Around} {k : Nat} (h : Room A k) {n : Nat} (hn : n <= 200) : A.in1.units + n < cLine := by
 have := h.2.2; show A.units + 1 + n < cLine; exact om2 this hn
theorem Room.in1 {A : Around} {k : Nat} (h : Room A k) : A.in1.units < cLine := by
 have := h.2.2; show A.units + 1 < cLine; exact om3 this
theorem c9c {gl : Str -> Option Value} {h : Heap} {vs : List Value} {l : List D} (r : DRels gl h F vs l) : ∀ {y : Value}, y ∈ vs -> ∃ d, d ∈ l /\ DRel gl h F y d :=
 DRels.ind (M := fun vs l => ∀ {y : Value}, y ∈ vs -> ∃ d, d ∈ l /\ DRel gl h F y d) (fun h => nomatch h) (fun {v x vs l} a _ ih {y} hy => (List.mem_cons.mp hy).elim (fun e => ⟨x, List.mem_cons_self, e ▸ a⟩) fun hy => (ih hy).elim fun d h => ⟨d, List.mem_cons_of_mem _ h.1, h.2⟩) r
open Classical in
noncomputable def eqTo (gl : Str -> Option Value) (h : Heap) (F : Addr -> Prop) (x : D) (y : Value) : Bool :=
 if hd : ∃ d, a0q d = true /\ DRel gl h F y d then eqD hd.choose x else false
theorem c0n {gl : Str -> Option Value} {h : Heap} {x d : D} {y : Value} (hp : a0q d = true) (r : DRel gl h F y d) : eqTo gl h F x y = eqD d x := by
 have hd : ∃ d, a0q d = true /\ DRel gl h F y d := ⟨d, hp, r⟩
 unfold eqTo
 erw [dif_pos hd]
 have := hd.choose_spec
 erw [this.2.unique r this.1 hp]
theorem c5c {gl : Str -> Option Value} {h : Heap} {x : D} {vs : List Value} {l : List D} (r : DRels gl h F vs l) : a0r l = true -> vs.any (eqTo gl h F x) = l.any fun d => eqD d x :=
 DRels.ind (M := fun vs l => a0r l = true -> vs.any (eqTo gl h F x) = l.any fun d => eqD d x) (fun ζ => rfl) (fun {v y vs l} a _ ih hp => have hp := Bool.and_eq_true_iff.mp hp
  (congr (congrArg or (c0n hp.1 a)) (ih hp.2) : (eqTo gl h F x v || vs.any (eqTo gl h F x)) = (eqD y x || l.any fun d => eqD d x))) r
theorem a1e {gl : Str -> Option Value} {h : Heap} {vs : List Value} {ns : List Int} (r : DRels gl h F vs (ns.map D.int)) : IntsAre vs ns := by
 induction ns generalizing vs with
 | nil => cases r; exact .nil
 | cons n ns ih => cases r with | cons a b => exact a.intI.elim fun t e => e ▸ .cons n t (ih b)
theorem b8m {p : Program} {w : World} (i : Int) (t : Tok) : (intKind p w).is i (.int i t) = true := by simp [intKind, Value.isInt]
theorem c0o {d : Addr} (h : d ≠ sysModules) : (d == sysModules) = false := by simpa using h
structure CmpV (op : CmpOp) (σ : List O) (va vb : V) (b : Bool) : Prop where
 run : ∀ {W : World0} {A : Around} {k : Nat} {s : Shared} {F : Addr -> Prop} {v u : Value}, Room A k -> (∀ {x}, a0h σ va = some x -> DRel W.gl s.heap noL v x) -> (∀ {x}, a0h σ vb = some x -> DRel W.gl s.heap noL u x) -> Gives W A (compareOp op v u) s F (.bool b)
theorem c9d {gl : Str -> Option Value} (hr : Room A k) {F' : Addr -> Prop} {vs : List Value} {l : List D} {v : Value} {x : D} (h2 : DRels gl s.heap F vs l) (d1 : DRel gl s.heap F' v x) (p1 : a0q x = true) (p2 : a0r l = true) (d : deps l <= 200) (y : Value) (hy : y ∈ vs.toArray) : EqAt A.in1 s y v (eqTo gl s.heap F x y) :=
 (c9c h2 (List.mem_toArray.mp hy)).elim fun dd h => c0n (a5e p2 dd h.1) h.2 ▸ eqD1 (hr.units1 (c0k d dd h.1)) h.2 d1 (a5e p2 dd h.1) p1
variable {va vb : V}
theorem CmpV.eq {x y : D} (e1 : a0h σ va = some x) (e2 : a0h σ vb = some y) (p1 : a0q x = true) (p2 : a0q y = true) (d : dep x <= 200) : CmpV .Eq σ va vb (eqD x y) :=
 .mk fun hr hv hu => .bool fun Q E q => rcD (hv e1) (hr.units d) (hu e2) p1 p2 _ _ E Q (q _)
theorem CmpV.ne {x y : D} (e1 : a0h σ va = some x) (e2 : a0h σ vb = some y) (p1 : a0q x = true) (p2 : a0q y = true) (d : dep x <= 200) : CmpV .NotEq σ va vb (!eqD x y) :=
 .mk fun hr hv hu => .bool fun Q E q => rneD (hr.units d) (hv e1) (hu e2) p1 p2 _ _ E Q (q _)
theorem CmpV.lt {i j : Int} (e1 : a0h σ va = some (.int i)) (e2 : a0h σ vb = some (.int j)) : CmpV .Lt σ va vb (decide (i < j)) :=
 .mk fun hr hv hu => by obtain ⟨t1, rfl⟩ := (hv e1).intI; obtain ⟨t2, rfl⟩ := (hu e2).intI; exact .bool fun Q E q => lt_int (q _)
theorem CmpV.le {i j : Int} (e1 : a0h σ va = some (.int i)) (e2 : a0h σ vb = some (.int j)) : CmpV .LtE σ va vb (decide (i <= j)) :=
 .mk fun hr hv hu => by obtain ⟨t1, rfl⟩ := (hv e1).intI; obtain ⟨t2, rfl⟩ := (hu e2).intI; exact .bool fun Q E q => le_int (q _)
theorem CmpV.gt {i j : Int} (e1 : a0h σ va = some (.int i)) (e2 : a0h σ vb = some (.int j)) : CmpV .Gt σ va vb (decide (j < i)) :=
 .mk fun hr hv hu => by obtain ⟨t1, rfl⟩ := (hv e1).intI; obtain ⟨t2, rfl⟩ := (hu e2).intI; exact .bool fun Q E q => gt_int (q _)
theorem CmpV.ge {i j : Int} (e1 : a0h σ va = some (.int i)) (e2 : a0h σ vb = some (.int j)) : CmpV .GtE σ va vb (decide (j <= i)) :=
 .mk fun hr hv hu => by obtain ⟨t1, rfl⟩ := (hv e1).intI; obtain ⟨t2, rfl⟩ := (hu e2).intI; exact .bool fun Q E q => ge_int (q _)
theorem CmpV.isN {x : D} (e1 : a0h σ va = some x) (hf : ∀ f, x ≠ .fn f) : CmpV .Is σ va (.d .none) (match x with | .none => true | _ => false) := .mk fun hr hv hu => by
 have d1 := hv e1
 obtain rfl := (hu rfl).noneI
 cases x with
 | none => obtain rfl := d1.noneI; exact .bool fun Q E q => is_none_none (q _)
 | fn f => exact absurd rfl (hf f)
 | _ => exact .bool fun Q E q => is_none_ne (d1.nn rfl) (q _)
theorem CmpV.isNotN {x : D} (e1 : a0h σ va = some x) (hf : ∀ f, x ≠ .fn f) : CmpV .IsNot σ va (.d .none) (match x with | .none => false | _ => true) := .mk fun hr hv hu => by
 have d1 := hv e1
 obtain rfl := (hu rfl).noneI
 cases x with
 | none => obtain rfl := d1.noneI; exact .bool fun Q E q => isnot_none_none (q _)
 | fn f => exact absurd rfl (hf f)
 | _ => exact .bool fun Q E q => isnot_none_ne (d1.nn rfl) (q _)
theorem CmpV.inL {x : D} {l : List D} (e1 : a0h σ va = some x) (e2 : a0h σ vb = some (.lst l)) (p1 : a0q x = true) (p2 : a0r l = true) (d : deps l <= 200) : CmpV .In σ va vb (l.any fun y => eqD y x) := .mk fun hr hv hu => by
 obtain ⟨a, vs, n, rfl, h1, _, h2⟩ := (hu e2).lstI
 refine .bool fun Q E q => in_listAt (eqTo _ _ noL x) (a0b h1) (c9d hr h2 (hv e1) p1 p2 d) ?_
 erw [List.any_toArray, c5c h2 p2]; exact q _
theorem CmpV.notInDT {ks : List Int} {l : List (List Int × D)} (e1 : a0h σ va = some (.tup (ks.map .int))) (e2 : a0h σ vb = some (.dT l)) : CmpV .NotIn σ va vb (!(lk l ks).isSome) := .mk fun {W} {A} {k} {s} {F} {v} {u} hr hv hu => by
 obtain ⟨b, vs, m, rfl, t1, t2⟩ := (hv e1).tupI
 obtain ⟨a, es, n, rfl, h1, h2, h3⟩ := (hu e2).dTI
 refine xEA (b2v (p := W.p) (w := W.w) h1 h2 h3.1) fun xs hm kv => ?_
 refine .bool fun Q E q => wpAny_notIn_heap (knd := tupleKind (intKind W.p W.w)) hr.in1 (a1t t1 (a1e t2)) (c0o h3.2) hm ?_
 erw [kv.isSome]; exact q _
theorem a2k (S : St W.gl X names ρ σ Λ ad s) (hr : Room X.A k) {op : CmpOp} {va vb : V} {b : Bool} {v u : Value} (c : CmpV op σ va vb b) (rv : VRel W.gl s.heap Λ X.Φ ad v va) (ru : VRel W.gl s.heap Λ X.Φ ad u vb) :
  Gives W X.A (compareOp op v u) s (Un Λ X.Φ) (.bool b) := c.run hr (a0z S rv) (a0z S ru)
inductive CmpQ (op : CmpOp) (σ : List O) (va vb : V) (Q : Bool -> List O -> Prop) : Prop
 | mk (r : Bool) (h : CmpV op σ va vb r) (q : Q r σ) : CmpQ op σ va vb Q
theorem TE.cmp {op : CmpOp} {a b : CE} {Q : V -> List O -> Prop} (t : TE W k a ρ σ fun va σ1 => TE W k b ρ σ1 fun vb σ2 => CmpQ op σ2 va vb fun r σ3 => Q (.d (.bool r)) σ3) : TE W k (.cmp op a b) ρ σ Q :=
 fun names sc E he X hk hr hw Λ ad s S => by
  replace he := c0d he; obtain ⟨l, o, r, pos, rfl, he⟩ := he
  ·skip
   simp only [Bool.and_eq_true, beq_iff_eq, Bool.not_eq_true'] at he
   obtain ⟨⟨⟨rfl, ha⟩, hb⟩, hm⟩ := he
   refine wpAny_Compare1 (TE.two (F := compareOp op) (t.mono fun va σ1 t₁ => t₁.mono fun vb σ2 h => ?_) ha hb hk hr hw S) hm
   obtain ⟨r, hb, q⟩ := h
   intro names X Λ ad s x y hr hw S rx ry
   exact (a2k S hr hb rx ry).post S q
theorem TC.cmp {op : CmpOp} {a b : CE} {Q : Bool -> List O -> Prop} (t : TE W k a ρ σ fun va σ1 => TE W k b ρ σ1 fun vb σ2 => CmpQ op σ2 va vb Q) : TC W k (.cmp op a b) ρ σ Q :=
 fun names sc E he X hk hr hw Λ ad s S => by
  replace he := c0d he; obtain ⟨l, o, r, pos, rfl, he⟩ := he
  ·skip
   simp only [Bool.and_eq_true, beq_iff_eq, Bool.not_eq_true'] at he
   obtain ⟨⟨⟨rfl, ha⟩, hb⟩, hm⟩ := he
   have key := TE.two (F := compareOp op) (Q := fun v σ' => ∃ r, v = .d (.bool r) /\ Q r σ') (t.mono fun va σ1 t₁ => t₁.mono fun vb σ2 h => by
    obtain ⟨r, hb, q⟩ := h
    intro names X Λ ad s x y hr hw S rx ry
    exact (a2k S hr hb rx ry).post S ⟨r, rfl, q⟩) ha hb hk hr hw S
   refine wpAny_isTrue_Compare1 (wpAny_mono key (fun x s₁ h₁ => wpAny_mono h₁ (fun y s₂ h₂ => wpAny_mono h₂ (fun c s₃ h₃ => ?_) fun ζ ζ f => f) fun ζ ζ f => f) fun ζ ζ f => f) hm
   obtain ⟨val, σ', Λ', ad', S', P', r', b, rfl, q⟩ := h₃
   obtain rfl := r'.dInv.boolI
   exact wpAny_truthy_bool ⟨σ', Λ', ad', S', P', q⟩
end
end Mine
end
section
open PySem PyProof.Rows PySem.SeqAt
namespace Mine
section
variable {W : World0} {k : Nat} {A : Around} {s : Shared} {F : Addr -> Prop}
variable {X : Cx} {names : List Str} {ρ : List (Option V)} {σ : List O} {Λ : Addr -> Prop} {ad : List Addr}
theorem PostC.trans {gl : Str -> Option Value} {σ' : List O} {ad' : List Addr} {Λ' : Addr -> Prop} {s' s'' : Shared} {Q : Bool -> List O -> Prop} {b : Bool} (P : Step (a1d X.env) σ ad Λ s.heap σ' ad' Λ' s'.heap) (x : PostC gl X names ρ σ' Λ' ad' s' Q b s'') : PostC gl X names ρ σ Λ ad s Q b s'' := by
 obtain ⟨σ2, Λ2, ad2, S2, P2, q⟩ := x
 exact ⟨σ2, Λ2, ad2, S2, P.trans P2, q⟩
theorem TC.not {a : CE} {Q : Bool -> List O -> Prop} (t : TC W k a ρ σ fun b σ' => Q (!b) σ') : TC W k (.not a) ρ σ Q := fun names sc E he X hk hr hw Λ ad s S => by
 replace he := c0c he; obtain ⟨_, _, rfl, he⟩ := he
 ·exact isTrue_not (wpAny_mono (t names sc _ he X hk hr hw Λ ad s S) (fun _ _ ⟨a, b, c, d, e, f⟩ => ⟨a, b, c, d, e, f⟩) fun ζ ζ f => f)
theorem TC.andNil {Q : Bool -> List O -> Prop} (q : Q true σ) : TC W k (.and []) ρ σ Q := fun names sc E he X hk hr hw Λ ad s S => by
 replace he := b0p he; obtain ⟨_, _, rfl, he⟩ := he
 ·first | (replace he := a0i he; obtain ⟨_, _, rfl, he⟩ := he) | (replace he := a0n he; obtain ⟨rfl, he⟩ := he)
  ·exact isTrue_and_nil ⟨σ, Λ, ad, S, .refl, q⟩
theorem TC.and {x : CE} {rest : List CE} {Q : Bool -> List O -> Prop} (t : TC W k x ρ σ fun b σ' => if b then TC W k (.and rest) ρ σ' Q else Q false σ') : TC W k (.and (x :: rest)) ρ σ Q := fun names sc E he X hk hr hw Λ ad s S => by
 replace he := b0p he; obtain ⟨ζ, pos, rfl, he⟩ := he
 ·first | (replace he := a0i he; obtain ⟨x, xs, rfl, he⟩ := he) | (replace he := a0n he; obtain ⟨rfl, he⟩ := he)
  ·skip
   simp only [Bool.and_eq_true] at he
   refine isTrue_and (wpAny_mono (t names sc _ he.1 X hk hr hw Λ ad s S) (fun b s₁ h₁ => ?_) fun ζ ζ f => f)
   obtain ⟨σ1, Λ1, ad1, S1, P1, q⟩ := h₁
   cases b with
   | false => exact ⟨σ1, Λ1, ad1, S1, P1, q⟩
   | true => exact wpAny_mono (q names sc (.BoolOp .And xs pos) (by exact he.2) X hk hr hw Λ1 ad1 s₁ S1) (fun b s₂ h₂ => PostC.trans P1 h₂) fun ζ ζ f => f
theorem TC.orNil {Q : Bool -> List O -> Prop} (q : Q false σ) : TC W k (.or []) ρ σ Q := fun names sc E he X hk hr hw Λ ad s S => by
 replace he := b6l he; obtain ⟨_, _, rfl, he⟩ := he
 ·first | (replace he := a0i he; obtain ⟨_, _, rfl, he⟩ := he) | (replace he := a0n he; obtain ⟨rfl, he⟩ := he)
  ·exact isTrue_or_nil ⟨σ, Λ, ad, S, .refl, q⟩
theorem TC.or {x : CE} {rest : List CE} {Q : Bool -> List O -> Prop} (t : TC W k x ρ σ fun b σ' => if b then Q true σ' else TC W k (.or rest) ρ σ' Q) : TC W k (.or (x :: rest)) ρ σ Q := fun names sc E he X hk hr hw Λ ad s S => by
 replace he := b6l he; obtain ⟨ζ, pos, rfl, he⟩ := he
 ·first | (replace he := a0i he; obtain ⟨x, xs, rfl, he⟩ := he) | (replace he := a0n he; obtain ⟨rfl, he⟩ := he)
  ·skip
   simp only [Bool.and_eq_true] at he
   refine isTrue_or (wpAny_mono (t names sc _ he.1 X hk hr hw Λ ad s S) (fun b s₁ h₁ => ?_) fun ζ ζ f => f)
   obtain ⟨σ1, Λ1, ad1, S1, P1, q⟩ := h₁
   cases b with
   | true => exact ⟨σ1, Λ1, ad1, S1, P1, q⟩
   | false => exact wpAny_mono (q names sc (.BoolOp .Or xs pos) (by exact he.2) X hk hr hw Λ1 ad1 s₁ S1) (fun b s₂ h₂ => PostC.trans P1 h₂) fun ζ ζ f => f
noncomputable def a3k : CE -> Bool
 | .not _ | .and _ | .or _ | .cmp .. | .cmp2 .. | .ite .. => false
 | _ => true
theorem a7w {names : List Str} {sc : Scope} {e : CE} {E : Expr} (hp : a3k e = true) (he : isE names sc e E = true) (env : Env) (whole : Sem Value) :
  isTrue E env whole = (do let v ← whole; standAt E.pos; holding [v] (truthy v)) := by
 have hi : [0, 5, 15].contains (ixOf e) = false := by cases e <;> first | exact ff hp | rfl
 rw [← c4x he] at hi
 cases E with
 | BoolOp op vs p => exact ff hi.symm
 | UnaryOp op x p => cases op <;> first | rfl | (cases e <;> first | exact ff he | exact ff hp)
 | IfExp a b c d => exact ff hi.symm
 | Compare l ops cs p => exact ff hi.symm
 | _ => rfl
theorem TC.of {e : CE} {Q : Bool -> List O -> Prop} (t : TE W k e ρ σ fun v σ' => ∃ b, v = .d (.bool b) /\ Q b σ') (hp : a3k e = true := by rfl) : TC W k e ρ σ Q := fun names sc E he X hk hr hw Λ ad s S => by
 refine isTrue_plain (wpAny_mono (t names sc E he X hk hr hw Λ ad s S) (fun v s₁ h₁ => ?_) fun ζ ζ f => f) (a7w hp he _ _)
 obtain ⟨val, σ1, Λ1, ad1, S1, P1, r, b, rfl, q⟩ := h₁
 obtain rfl := r.dInv.boolI
 exact wpAny_truthy_bool ⟨σ1, Λ1, ad1, S1, P1, q⟩
theorem TE.not {a : CE} {Q : V -> List O -> Prop} (t : TE W k a ρ σ fun v σ' => ∃ b, v = .d (.bool b) /\ Q (.d (.bool !b)) σ') : TE W k (.not a) ρ σ Q := fun names sc E he X hk hr hw Λ ad s S => by
 replace he := c0c he; obtain ⟨x, pos, rfl, he⟩ := he
 ·skip
  show wpAny _ _ (do let v ← eval x X.env; standAt pos; holding [v] (unaryOp .Not v)) _ _ s
  refine wpAny_bind (wpAny_mono (t names sc _ he X hk hr hw Λ ad s S) (fun v s₁ h₁ => ?_) fun ζ ζ f => f)
  obtain ⟨val, σ1, Λ1, ad1, S1, P1, r, b, rfl, q⟩ := h₁
  obtain rfl := r.dInv.boolI
  exact wpAny_bind (wpAny_standAt (wpAny_holding (not_of (wpAny_truthy_bool (Post.trans P1 (Post.here (t := s₁.toks) S1 (.d (.bool _)) q))))))
theorem TE.neg {a : CE} {Q : V -> List O -> Prop} (t : TE W k a ρ σ fun v σ' => ∃ i, a0h σ' v = some (.int i) /\ Q (.d (.int (-i))) σ') : TE W k (.neg a) ρ σ Q := fun names sc E he X hk hr hw Λ ad s S => by
 replace he := c8v he; obtain ⟨x, pos, rfl, he⟩ := he
 ·skip
  show wpAny _ _ (do let v ← eval x X.env; standAt pos; holding [v] (unaryOp .USub v)) _ _ s
  refine wpAny_bind (wpAny_mono (t names sc _ he X hk hr hw Λ ad s S) (fun v s₁ h₁ => ?_) fun ζ ζ f => f)
  obtain ⟨val, σ1, Λ1, ad1, S1, P1, r, i, e, q⟩ := h₁
  obtain ⟨tk, rfl⟩ := (a0z S1 r e).intI
  exact wpAny_bind (wpAny_standAt (wpAny_holding (neg_int (Post.trans P1 (Post.here S1 (.d (.int _ _)) q)))))
theorem TE.and1 {a : CE} {Q : V -> List O -> Prop} (t : TE W k a ρ σ Q) : TE W k (.and [a]) ρ σ Q := fun names sc E he X hk hr hw Λ ad s S => by
 replace he := b0p he; obtain ⟨_, _, rfl, he⟩ := he
 ·first | (replace he := a0i he; obtain ⟨_, _, rfl, he⟩ := he) | (replace he := a0n he; obtain ⟨rfl, he⟩ := he)
  ·simp only [Bool.and_eq_true] at he
   have h2 := he.2
   first | (replace h2 := a0i h2; obtain ⟨_, _, rfl, h2⟩ := h2) | (replace h2 := a0n h2; obtain ⟨rfl, h2⟩ := h2)
   ·exact BoolOp_one (t names sc _ he.1 X hk hr hw Λ ad s S)
theorem TE.or1 {a : CE} {Q : V -> List O -> Prop} (t : TE W k a ρ σ Q) : TE W k (.or [a]) ρ σ Q := fun names sc E he X hk hr hw Λ ad s S => by
 replace he := b6l he; obtain ⟨_, _, rfl, he⟩ := he
 ·first | (replace he := a0i he; obtain ⟨_, _, rfl, he⟩ := he) | (replace he := a0n he; obtain ⟨rfl, he⟩ := he)
  ·simp only [Bool.and_eq_true] at he
   have h2 := he.2
   first | (replace h2 := a0i h2; obtain ⟨_, _, rfl, h2⟩ := h2) | (replace h2 := a0n h2; obtain ⟨rfl, h2⟩ := h2)
   ·exact BoolOp_one (t names sc _ he.1 X hk hr hw Λ ad s S)
theorem TE.and {a b : CE} {l : List CE} {Q : V -> List O -> Prop} (t : TE W k a ρ σ fun v σ' => ∃ c, v = .d (.bool c) /\ if c then TE W k (.and (b :: l)) ρ σ' Q else Q (.d (.bool false)) σ') : TE W k (.and (a :: b :: l)) ρ σ Q := fun names sc E he X hk hr hw Λ ad s S => by
 replace he := b0p he; obtain ⟨ζ, pos, rfl, he⟩ := he
 ·first | (replace he := a0i he; obtain ⟨x, xs, rfl, he⟩ := he) | (replace he := a0n he; obtain ⟨rfl, he⟩ := he)
  ·skip
   simp only [Bool.and_eq_true] at he
   have h2 := he.2
   first | (replace h2 := a0i h2; obtain ⟨y, ys, rfl, h2⟩ := h2) | (replace h2 := a0n h2; obtain ⟨rfl, h2⟩ := h2)
   ·skip
    refine BoolOp_and (wpAny_mono (t names sc _ he.1 X hk hr hw Λ ad s S) (fun v s₁ h₁ => ?_) fun ζ ζ f => f)
    obtain ⟨val, σ1, Λ1, ad1, S1, P1, r, c, rfl, q⟩ := h₁
    obtain rfl := r.dInv.boolI
    refine wpAny_truthy_bool ?_
    cases c with
    | false => exact Post.trans P1 (Post.here (t := s₁.toks) S1 (.d (.bool _)) q)
    | true => exact wpAny_mono (q names sc _ (by exact he.2) X hk hr hw Λ1 ad1 s₁ S1) (fun v s₂ h₂ => Post.trans P1 h₂) fun ζ ζ f => f
theorem TE.or {a b : CE} {l : List CE} {Q : V -> List O -> Prop} (t : TE W k a ρ σ fun v σ' => ∃ c, v = .d (.bool c) /\ if c then Q (.d (.bool true)) σ' else TE W k (.or (b :: l)) ρ σ' Q) : TE W k (.or (a :: b :: l)) ρ σ Q := fun names sc E he X hk hr hw Λ ad s S => by
 replace he := b6l he; obtain ⟨ζ, pos, rfl, he⟩ := he
 ·first | (replace he := a0i he; obtain ⟨x, xs, rfl, he⟩ := he) | (replace he := a0n he; obtain ⟨rfl, he⟩ := he)
  ·skip
   simp only [Bool.and_eq_true] at he
   have h2 := he.2
   first | (replace h2 := a0i h2; obtain ⟨y, ys, rfl, h2⟩ := h2) | (replace h2 := a0n h2; obtain ⟨rfl, h2⟩ := h2)
   ·skip
    refine BoolOp_or (wpAny_mono (t names sc _ he.1 X hk hr hw Λ ad s S) (fun v s₁ h₁ => ?_) fun ζ ζ f => f)
    obtain ⟨val, σ1, Λ1, ad1, S1, P1, r, c, rfl, q⟩ := h₁
    obtain rfl := r.dInv.boolI
    refine wpAny_truthy_bool ?_
    cases c with
    | true => exact Post.trans P1 (Post.here (t := s₁.toks) S1 (.d (.bool _)) q)
    | false => exact wpAny_mono (q names sc _ (by exact he.2) X hk hr hw Λ1 ad1 s₁ S1) (fun v s₂ h₂ => Post.trans P1 h₂) fun ζ ζ f => f
theorem VRels.toD {gl : Str -> Option Value} {h : Heap} {Λ Φ : Addr -> Prop} {ad : List Addr} {vs : List Value} {l : List D} (r : VRels gl h Λ Φ ad vs (l.map V.d)) : DRels gl h (Un Λ Φ) vs l := by
 induction l generalizing vs with
 | nil => cases r; exact .nil
 | cons x xs ih => cases r with | cons a b => exact .cons a.dInv (ih b)
inductive LstQ (vals : List V) (Q : List D -> Prop) : Prop
 | mk (l : List D) (h : vals = l.map V.d) (hl : l.length <= 16777216) (q : Q l) : LstQ vals Q
theorem TE.tup {es : List CE} {Q : V -> List O -> Prop} (t : TEs W k es ρ σ fun vals σ' => LstQ vals fun l => Q (.d (.tup l)) σ') : TE W k (.tup es) ρ σ Q := fun names sc E he X hk hr hw Λ ad s S => by
 replace he := c8w he; obtain ⟨_, _, _, rfl, he⟩ := he
 ·refine Tuple_ (wpAny_mono (t.run he hk hr hw S _) (fun vs s₁ h₁ => ?_) fun ζ ζ f => f)
  obtain ⟨vals, σ1, Λ1, ad1, S1, P1, r, l, rfl, hl, q⟩ := h₁
  refine wpAny_mono (Gives.post S1 (Gives.tup (n := 0) r.toD fun Q E q => ?_) q) (fun v s₂ h₂ => Post.trans P1 h₂) fun ζ ζ f => f
  exact wpAny_newObj_type (q s₁.toks) (by show vs.toArray.size <= sizeLine; erw [List.size_toArray, r.toD.length]; simpa [sizeLine] using hl)
theorem TE.lst {es : List CE} {Q : V -> List O -> Prop} (t : TEs W k es ρ σ fun vals σ' => LstQ vals fun l => Q (.d (.lst l)) σ') : TE W k (.lst es) ρ σ Q := fun names sc E he X hk hr hw Λ ad s S => by
 replace he := c0e he; obtain ⟨_, _, rfl, he⟩ := he
 ·refine List_ (wpAny_mono (t.run he hk hr hw S _) (fun vs s₁ h₁ => ?_) fun ζ ζ f => f)
  obtain ⟨vals, σ1, Λ1, ad1, S1, P1, r, l, rfl, hl, q⟩ := h₁
  refine wpAny_mono (Gives.post S1 (Gives.lst (n := 0) S1.usedF r.toD fun Q E q => ?_) q) (fun v s₂ h₂ => Post.trans P1 h₂) fun ζ ζ f => f
  exact wpAny_newObj_type (q s₁.toks) (by show vs.toArray.size <= sizeLine; erw [List.size_toArray, r.toD.length]; simpa [sizeLine] using hl)
end
end Mine
end
section
open PySem PyProof.Rows PySem.SeqAt
namespace Mine
section
variable {gl : Str -> Option Value} {X : Cx} {names : List Str} {ρ : List (Option V)} {σ : List O} {Λ : Addr -> Prop} {ad : List Addr} {s s' : Shared}
theorem get_snoc {α : Type} {l : List α} {x y : α} {i : Nat} (e : (l ++ [x])[i]? = some y) : l[i]? = some y ∨ (i = l.length /\ y = x) := by
 rcases Nat.lt_trichotomy i l.length with h | h | h
 ·left; rwa [List.getElem?_append_left h] at e
 ·right; subst h; simp at e; exact ⟨rfl, e.symm⟩
 ·rw [List.getElem?_eq_none (by simp; exact om4 h)] at e; exact dNS e
theorem a7h {α : Type} {l : List α} {x y : α} {i : Nat} (e : l[i]? = some y) : (l ++ [x])[i]? = some y := by
 have : i < l.length := (List.getElem?_eq_some_iff.mp e).1
 erw [List.getElem?_append_left this]; exact e
theorem St.live (S : St gl X names ρ σ Λ ad s) (kk : Kept X.env.locals s s') {a : Addr} (hn : s.heap.get? a = none) {o : O} (hd : o ≠ .dead)
  (ho : ∀ Λ' ad', Keep Λ Λ' s.heap s'.heap -> (∀ (i : Nat) (b : Addr), ad[i]? = some b -> ad'[i]? = some b) -> ORel gl s'.heap Λ' X.Φ ad' a o) (he : ∃ ob, s'.heap.get? a = some ob) :
  St gl X names ρ (σ ++ [o]) (fun b => Λ b ∨ b = a) (ad ++ [a]) s' /\ Step (a1d X.env) σ ad Λ s.heap (σ ++ [o]) (ad ++ [a]) (fun b => Λ b ∨ b = a) s'.heap := by
 have P := Step.of_kept S kk
 have S' := S.kept kk
 have hna : ∀ b ob, s.heap.get? b = some ob -> b ≠ a := fun b ob e h => by subst h; exact dGN hn e
 have hnad : a ∉ ad := fun hm => by obtain ⟨ob, e⟩ := S.adl a hm; exact dGN hn e
 have hL : a ≠ X.env.locals := fun h => by
  obtain ⟨m, n⟩ := S.ns
  obtain ⟨ob, _, _, e, _⟩ := n
  exact hna _ _ e h.symm
 have K : Keep Λ (fun b => Λ b ∨ b = a) s.heap s'.heap := ⟨(P.keep S).tups, (P.keep S).objs, fun b ob nl ζ e l => l.elim nl (hna b ob e)⟩
 have pre : ∀ (i : Nat) (b : Addr), ad[i]? = some b -> (ad ++ [a])[i]? = some b := fun i b e => a7h e
 refine ⟨⟨S'.keep, S'.os, S'.gens, fun b l => ?_, fun b l => ?_, S.phi, ?_, by simp [S.len], fun b hb => ?_, fun i b o' e1 e2 e3 => ?_, .inl S.locL, ?_, S.cellN, S.rl, ?_⟩, ⟨P.only, P.dom, fun b l => ?_, pre, fun b l => ?_, fun b l => ?_, fun ζ ζ ζ l ζ => .inl l⟩⟩
 ·rcases l with l | rfl
  ·exact S.new b l
  ·cases q : X.hB.get? b with
   | none => rfl
   | some ob => exact absurd rfl (hna _ _ (S.keep _ _ q))
 ·rcases l with l | rfl
  ·exact S'.lt b l
  ·exact he
 ·rw [List.nodup_append]
  refine ⟨S.nd, by simp, fun x hx y hy => ?_⟩
  simp only [List.mem_singleton] at hy
  subst hy
  exact fun h => hnad (h ▸ hx)
 ·rcases List.mem_append.mp hb with hb | hb
  ·exact S'.adl b hb
  ·simp only [List.mem_singleton] at hb; subst hb; exact he
 ·rcases get_snoc e1 with e1' | ⟨rfl, rfl⟩
  ·have hlt : i < σ.length := by erw [← S.len]; exact (List.getElem?_eq_some_iff.mp e1').1
   rw [List.getElem?_append_left hlt] at e2
   obtain ⟨h1, h2⟩ := S.objs i b o' e1' e2 e3
   exact ⟨.inl h1, h2.keep K pre fun ob e => kk.obj b ob (fun h => S.locA (h ▸ a0g e1')) e⟩
  ·rw [S.len] at e2
   simp at e2
   subst e2
   exact ⟨.inr rfl, ho _ _ K pre⟩
 ·intro hm
  rcases List.mem_append.mp hm with hm | hm
  ·exact S.locA hm
  ·simp only [List.mem_singleton] at hm; exact hL hm.symm
 ·refine a0u S.vars fun m cm n c v => ?_
  refine ⟨m, cm, kk.ns m n, fun x c' e => ?_, fun x i val e1 e2 => ⟨fun hk => ?_, fun hk => ?_⟩⟩
  ·have hc := c x c' e
   have := a2j hc n
   obtain ⟨ob, ho', hdt⟩ := hc
   exact ⟨ob, kk.obj c' ob this ho', hdt⟩
  ·refine xEA ((v x i val e1 e2).1 hk) fun v' h1 h2 => ?_
   exact ⟨v', h1, h2.keep K pre⟩
  ·refine a0u ((v x i val e1 e2).2 hk) fun c' v' h1 h2 h3 => ?_
   exact ⟨c', v', h1, h2, h3.keep K pre⟩
 ·exact l.elim .inl fun h => .inr (h ▸ hn)
 ·obtain ⟨i, o', e1, e2, e3⟩ := l
  rcases get_snoc e1 with e1' | ⟨rfl, rfl⟩
  ·have hlt : i < σ.length := by erw [← S.len]; exact (List.getElem?_eq_some_iff.mp e1').1
   rw [List.getElem?_append_left hlt] at e2
   exact .inl ⟨i, o', e1', e2, e3⟩
  ·exact .inr hn
 ·rcases List.mem_append.mp l with l | l
  ·exact .inl l
  ·simp only [List.mem_singleton] at l; subst l; exact .inr hn
theorem set_get {α : Type} {l : List α} {i j : Nat} {x y : α} (e : (l.set i x)[j]? = some y) : (j = i /\ y = x) ∨ (j ≠ i /\ l[j]? = some y) := by
 by_cases h : i = j
 ·subst h
  have : i < l.length := by have := (List.getElem?_eq_some_iff.mp e).1; simpa using this
  rw [List.getElem?_set_self this] at e
  exact .inl ⟨rfl, (Option.some.inj e).symm⟩
 ·rw [List.getElem?_set_ne h] at e
  exact .inr ⟨Ne.symm h, e⟩
theorem b2w {ad : List Addr} (nd : ad.Nodup) {i j : Nat} {a : Addr} (e1 : ad[i]? = some a) (e2 : ad[j]? = some a) : i = j := by
 have h1 := (List.getElem?_eq_some_iff.mp e1)
 have h2 := (List.getElem?_eq_some_iff.mp e2)
 obtain ⟨l1, q1⟩ := h1
 obtain ⟨l2, q2⟩ := h2
 rcases Nat.lt_trichotomy i j with h | h | h
 ·exact absurd (q1.trans q2.symm) (List.pairwise_iff_getElem.mp nd i j l1 l2 h)
 ·exact h
 ·exact absurd (q2.trans q1.symm) (List.pairwise_iff_getElem.mp nd j i l2 l1 h)
theorem St.update (S : St gl X names ρ σ Λ ad s) {i : Nat} {a : Addr} {o o' : O} (ea : ad[i]? = some a) (eo : σ[i]? = some o) (hd : o ≠ .dead) (hd' : o' ≠ .dead)
  (hsb : ∀ b, b ≠ a -> s'.heap.get? b = s.heap.get? b) (hos : s'.os = s.os) (hg : s'.gens = s.gens) (he : ∃ ob, s'.heap.get? a = some ob)
  (ho : Keep Λ Λ s.heap s'.heap -> ORel gl s'.heap Λ X.Φ ad a o') :
  St gl X names ρ (σ.set i o') Λ ad s' /\ Step (a1d X.env) σ ad Λ s.heap (σ.set i o') ad Λ s'.heap := by
 have hla : a3g σ ad a := ⟨i, o, ea, eo, hd⟩
 have hΛ := S.live_lam hla
 have hL : a ≠ X.env.locals := fun h => S.locA (h ▸ a0g ea)
 have dom : ∀ b ob, s.heap.get? b = some ob -> ∃ ob', s'.heap.get? b = some ob' := fun b ob e => by
  by_cases h : b = a
  ·subst h; exact he
  ·erw [hsb b h]; exact ⟨ob, e⟩
 have K : Keep Λ Λ s.heap s'.heap := ⟨fun b vs n e => by erw [hsb b (fun h => a2t S e (h ▸ hla))]; exact e, fun b ob nl ζ e => by erw [hsb b (fun h => nl (h ▸ hΛ))]; exact e, fun ζ ζ nl ζ ζ => nl⟩
 have hlen : i < σ.length := (List.getElem?_eq_some_iff.mp eo).1
 refine ⟨⟨fun b ob e => ?_, hos.trans S.os, hg.trans S.gens, S.new, fun b l => ?_, S.phi, S.nd, by simp [S.len], fun b hb => ?_, fun j b o₂ e1 e2 e3 => ?_, S.locL, S.locA, S.cellN, S.rl, ?_⟩,
  ⟨fun b ob nl ζ e => ?_, dom, fun b l => .inl l, fun ζ ζ e => e, fun b l => ?_, fun ζ l => .inl l, fun ζ ζ ζ l ζ => l⟩⟩
 ·have hb : b ≠ a := fun h => by subst h; rw [S.new b hΛ] at e; exact dNS e
  erw [hsb b hb]; exact S.keep b ob e
 ·obtain ⟨ob, e⟩ := S.lt b l; exact dom b ob e
 ·obtain ⟨ob, e⟩ := S.adl b hb; exact dom b ob e
 ·rcases set_get e2 with ⟨rfl, rfl⟩ | ⟨hne, e2'⟩
  ·rw [ea] at e1; cases e1
   exact ⟨hΛ, ho K⟩
  ·obtain ⟨h1, h2⟩ := S.objs j b o₂ e1 e2' e3
   have hb : b ≠ a := fun h => by subst h; exact hne (b2w S.nd e1 ea)
   exact ⟨h1, h2.keep K (fun ζ ζ e => e) fun ob e => by erw [hsb b hb]; exact e⟩
 ·refine a0u S.vars fun m cm n c v => ?_
  have n' : s'.heap.Ns X.env.locals m := by
   obtain ⟨ob, es, ep, e, r⟩ := n
   exact ⟨ob, es, ep, by erw [hsb _ (Ne.symm hL)]; exact e, r⟩
  refine ⟨m, cm, n', fun x c' e => ?_, fun x j val e1 e2 => ⟨fun hk => ?_, fun hk => ?_⟩⟩
  ·obtain ⟨ob, ho', hdt⟩ := c x c' e
   refine ⟨ob, ?_, hdt⟩
   rw [hsb c' fun h => ?_]
   ·exact ho'
   ·subst h
    have hor := (S.objs i c' o ea eo hd).2
    cases o with
    | lst l => obtain ⟨vs, n, e', _⟩ := hor; rw [ho'] at e'; cases e'; cases hdt
    | dI l => obtain ⟨vs, n, e', _⟩ := hor; rw [ho'] at e'; cases e'; cases hdt
    | dT l => obtain ⟨vs, n, e', _⟩ := hor; rw [ho'] at e'; cases e'; cases hdt
    | lstV l => obtain ⟨vs, n, e', _⟩ := hor; rw [ho'] at e'; cases e'; cases hdt
    | dead => exact hd rfl
  ·refine xEA ((v x j val e1 e2).1 hk) fun v' h1 h2 => ?_
   exact ⟨v', h1, h2.keep K fun ζ ζ e => e⟩
  ·refine a0u ((v x j val e1 e2).2 hk) fun c' v' h1 h2 h3 => ?_
   exact ⟨c', v', h1, h2, h3.keep K fun ζ ζ e => e⟩
 ·erw [hsb b fun h => nl (h ▸ hla)]; exact e
 ·obtain ⟨j, o₂, e1, e2, e3⟩ := l
  rcases set_get e2 with ⟨rfl, rfl⟩ | ⟨hne, e2'⟩
  ·rw [ea] at e1; cases e1; exact .inl hla
  ·exact .inl ⟨j, o₂, e1, e2', e3⟩
end
end Mine
end
section
open PySem PyProof.Rows PySem.SeqAt
namespace Mine
noncomputable def b0t (x : D) : V := if nolist x then .d x else .a x
noncomputable def oSeq : Option O -> Option (Bool × List V)
 | some (.lst l) => some (true, l.map V.d)
 | some (.lstV l) => some (true, l)
 | _ => none
noncomputable def seqV (σ : List O) : V -> Option (Bool × List V)
 | .d (.lst l) => some (true, l.map V.d)
 | .d (.tup l) => some (false, l.map V.d)
 | .a (.lst l) => some (true, l.map b0t)
 | .a (.tup l) => some (false, l.map b0t)
 | .t l => some (false, l)
 | .r i => oSeq σ[i]?
 | _ => none
section
variable {gl : Str -> Option Value} {X : Cx} {names : List Str} {ρ : List (Option V)} {σ : List O} {Λ Λ' Φ : Addr -> Prop} {ad : List Addr} {s : Shared} {h : Heap}
theorem c0p {v : Value} {x : D} (r : DRel gl h Λ v x) : VRel gl h Λ Φ ad v (b0t x) := by
 unfold b0t
 split
 ·exact .d (r.nolist (by assumption))
 ·exact .a r
theorem a9p {vs : List Value} {l : List D} (r : DRels gl h Λ vs l) : VRels gl h Λ Φ ad vs (l.map b0t) :=
 DRels.ind (M := fun vs l => VRels gl h Λ Φ ad vs (l.map b0t)) .nil (fun a ζ ih => .cons (c0p a) ih) r
theorem c0q {vs : List Value} {l : List D} (r : DRels gl h (Un Λ Φ) vs l) : VRels gl h Λ Φ ad vs (l.map V.d) :=
 DRels.ind (M := fun vs l => VRels gl h Λ Φ ad vs (l.map V.d)) .nil (fun a ζ ih => .cons (.d a) ih) r
theorem VRels.get {vs : List Value} {l : List V} {i : Nat} {x : V} (r : VRels gl h Λ Φ ad vs l) : l[i]? = some x -> ∃ v, vs[i]? = some v /\ VRel gl h Λ Φ ad v x :=
 VRels.ind (M := fun vs l => ∀ i, l[i]? = some x -> ∃ v, vs[i]? = some v /\ VRel gl h Λ Φ ad v x) (fun i e => by exact dNS e)
  (fun {v} {y} {vs} {l} a _ ih i e => match i, e with
   | 0, e => ⟨v, rfl, Option.some.inj (e : some y = some x) ▸ a⟩
   | i + 1, e => ih i e) r i
theorem c5d {a : Addr} {b : Bool} {l : List V} (o : Option O) (k : ∀ o', o = some o' -> o' ≠ .dead -> ORel gl h Λ Φ ad a o') (e : oSeq o = some (b, l)) : ∃ a' vs n, Value.ref a = .ref a' /\ h.get? a' = some (if b then LO vs n else TO vs n) /\ VRels gl h Λ Φ ad vs l := by
 cases o with
 | none => exact cNS e
 | some o => cases o with
  | lst l => obtain ⟨rfl, rfl⟩ := a2f e; obtain ⟨vs, n, h1, h2⟩ := k _ rfl nofun; exact ⟨_, _, _, rfl, h1, c0q h2⟩
  | lstV l => obtain ⟨rfl, rfl⟩ := a2f e; obtain ⟨vs, n, h1, h2⟩ := k _ rfl nofun; exact ⟨_, _, _, rfl, h1, h2⟩
  | _ => exact cNS e
theorem b4y (S : St gl X names ρ σ Λ ad s) {v : Value} {val : V} {b : Bool} {l : List V} (r : VRel gl s.heap Λ X.Φ ad v val) (e : seqV σ val = some (b, l)) :
  ∃ a vs n, v = .ref a /\ s.heap.get? a = some (if b then LO vs n else TO vs n) /\ VRels gl s.heap Λ X.Φ ad vs l := by
 cases val with
 | d x => cases x with
  | lst l' => obtain ⟨a, vs, n, rfl, h1, _, h2⟩ := r.dInv.lstI; obtain ⟨rfl, rfl⟩ := a2f e; exact ⟨a, vs, n, rfl, h1, c0q h2⟩
  | tup l' => obtain ⟨a, vs, n, rfl, h1, h2⟩ := r.dInv.tupI; obtain ⟨rfl, rfl⟩ := a2f e; exact ⟨a, vs, n, rfl, h1, c0q h2⟩
  | _ => exact cNS e
 | a x => cases x with
  | lst l' => obtain ⟨a, vs, n, rfl, h1, _, h2⟩ := r.aInv.lstI; obtain ⟨rfl, rfl⟩ := a2f e; exact ⟨a, vs, n, rfl, h1, a9p h2⟩
  | tup l' => obtain ⟨a, vs, n, rfl, h1, h2⟩ := r.aInv.tupI; obtain ⟨rfl, rfl⟩ := a2f e; exact ⟨a, vs, n, rfl, h1, a9p h2⟩
  | _ => exact cNS e
 | r i =>
  obtain ⟨a, rfl, e'⟩ := r.rInv
  exact c5d (σ[i]?) (fun o hs hn => (S.objs i a o e' hs hn).2) e
 | t l => obtain ⟨a, vs, n, rfl, h1, h2⟩ := r.tInv; obtain ⟨rfl, rfl⟩ := a2f e; exact ⟨a, vs, n, rfl, h1, h2⟩
end
section
variable {W : World0} {k : Nat} {A : Around} {s : Shared} {F : Addr -> Prop}
variable {X : Cx} {names : List Str} {ρ : List (Option V)} {σ : List O} {Λ : Addr -> Prop} {ad : List Addr}
set_option tactic.hygienic true in
theorem seqIndex_cases {i : Int} {n j : Nat} (h : seqIndex? i n = some j) : (0 <= i /\ j = i.toNat /\ j < n) ∨ (i < 0 /\ -(n : Int) <= i /\ j = (i + n).toNat /\ j < n) := by
 unfold seqIndex? at h
 by_cases h0 : i < 0
 ·simp only [h0, if_true] at h
  split at h
  ·rename_i hh
   simp only [Bool.and_eq_true, decide_eq_true_eq] at hh
   simp only [Option.some.injEq] at h
   right; exact om5 hh h
  ·exact dNS h
 ·simp only [h0, if_false] at h
  split at h
  ·rename_i hh
   simp only [Bool.and_eq_true, decide_eq_true_eq] at hh
   simp only [Option.some.injEq] at h
   left; exact om6 hh h
  ·exact dNS h
theorem c9e {names : List Str} {sc : Scope} {e : CE} {E : Expr} (h : isE names sc e E = true) (o i : Value) : subscripted E false o i = operate [o, i] (getItem o i) := by
 cases E with
 | Slice l u st p => exact b2r h rfl
 | _ => rfl
structure SubV (σ : List O) (va vb val : V) : Prop where
 run : ∀ {W : World0} {X : Cx} {k : Nat} {names : List Str} {ρ : List (Option V)} {Λ : Addr -> Prop} {ad : List Addr} {s : Shared} {v u : Value}, St W.gl X names ρ σ Λ ad s -> Room X.A k -> VRel W.gl s.heap Λ X.Φ ad v va -> VRel W.gl s.heap Λ X.Φ ad u vb ->
  ∀ (value : Expr) {slice : Expr}, subscripted slice false v u = operate [v, u] (getItem v u) -> ∀ {QQ E : Value -> Shared -> Prop}, (∀ v t, VRel W.gl s.heap Λ X.Φ ad v val -> QQ v { s with toks := t }) -> wpAny (model W.p W.w) X.A (subscriptTail value slice v u) QQ E s
variable {va vb : V}
theorem SubV.seq {b : Bool} {l : List V} {i : Int} {j : Nat} {x : V} (e1 : seqV σ va = some (b, l)) (e2 : a0h σ vb = some (.int i)) (e3 : seqIndex? i l.length = some j) (e4 : l[j]? = some x) (e5 : -(2 ^ 63) <= i /\ i < 2 ^ 63) : SubV σ va vb x := .mk fun {W X k names ρ Λ ad s v u} S hr rv ru value slice hs QQ E q => by
 obtain ⟨a, vs, n, rfl, h1, h2⟩ := b4y S rv e1
 obtain ⟨t, rfl⟩ := (a0z S ru e2).intI
 refine xEA (h2.get e4) fun y hy ry => ?_
 have hlen := h2.length
 have fin : QQ y s := q y s.toks ry
 cases b with
 | true =>
  have hl := a0b (show s.heap.get? a = some (LO vs n) from h1)
  refine tail_any hl.typeIs slot_list_getitem.lookup ?_ hs
  rcases seqIndex_cases e3 with ⟨p0, p1, p2⟩ | ⟨p0, p1, p2, p3⟩
  ·exact wpAny_getItem_list hl p0 e5.2 (by erw [← p1]; exact List.getElem?_toArray.trans hy) fin
  ·exact wpAny_getItem_list_neg hl p0 (by erw [List.size_toArray, hlen]; exact p1) e5.1 (by erw [List.size_toArray, hlen, ← p2]; exact List.getElem?_toArray.trans hy) fin
 | false =>
  have hl : IsTup s.heap a vs.toArray := ⟨_, h1, rfl, n, rfl⟩
  exact tail_any hl.typeIs slot_tuple_getitem.lookup (getItem_tuple hl e5.1 e5.2 (j := j) (by erw [List.size_toArray, hlen]; exact e3) (List.getElem?_toArray.trans hy) fin) hs
inductive SubQ (σ : List O) (va vi : V) (Q : V -> List O -> Prop) : Prop
 | mk (x : V) (h : SubV σ va vi x) (q : Q x σ) : SubQ σ va vi Q
theorem TE.sub {a i : CE} {Q : V -> List O -> Prop} (t : TE W k a ρ σ fun va σ1 => TE W k i ρ σ1 fun vi σ2 => SubQ σ2 va vi Q) : TE W k (.sub a i) ρ σ Q :=
 fun names sc E he X hk hr hw Λ ad s S => by
  replace he := b4t he; obtain ⟨l, r, pos, rfl, he⟩ := he
  ·skip
   simp only [Bool.and_eq_true] at he
   refine Subscript_ (TE.two (F := subscriptTail l r) (t.mono fun va σ1 t₁ => t₁.mono fun vb σ2 h => ?_) he.1 he.2 hk hr hw S)
   obtain ⟨x, hb, q⟩ := h
   intro names X Λ ad s v u hr hw S rx ry
   exact hb.run S hr rx ry _ (c9e he.2 _ _) fun v t r => Post.here S r q
noncomputable def a2a {α : Type} (l : List α) (lo hi : Option Int) : List α :=
 (sliceRange (sliceBounds lo hi none l.length).1 (sliceBounds lo hi none l.length).2.1 (sliceBounds lo hi none l.length).2.2).filterMap (l[·]?)
theorem DRels.pick {gl : Str -> Option Value} {h : Heap} {F : Addr -> Prop} {vs : List Value} {l : List D} (r : DRels gl h F vs l) (is : List Nat) : DRels gl h F (is.filterMap (vs[·]?)) (is.filterMap (l[·]?)) := by
 induction is with
 | nil => exact .nil
 | cons i is ih =>
  cases e : l[i]? with
  | none => erw [List.filterMap_cons_none e, List.filterMap_cons_none (List.getElem?_eq_none (r.length ▸ List.getElem?_eq_none_iff.mp e))]; exact ih
  | some x =>
   refine xEA (r.get e) fun v hv rv => ?_
   erw [List.filterMap_cons_some e, List.filterMap_cons_some hv]; exact .cons rv ih
noncomputable def TEo (W : World0) (k : Nat) (e : Option CE) (ρ : List (Option V)) (σ : List O) (Q : Option Int -> List O -> Prop) : Prop :=
 match e with
 | none => Q none σ
 | some e => TE W k e ρ σ fun v σ' => ∃ i, v = .d (.int i) /\ Q (some i) σ'
theorem TEo.run {e : Option CE} {Q : Option Int -> List O -> Prop} (t : TEo W k e ρ σ Q) {sc : Scope} {Eo : Option Expr} (he : isEo names sc e Eo = true) (hk : KindsOk X.env sc) (hr : Room X.A k) (hw : W.ok X.hB) (S : St W.gl X names ρ σ Λ ad s) :
  wpAny (model W.p W.w) X.A (evalPart Eo X.env) (fun v s' => ∃ i σ' Λ' ad', St W.gl X names ρ σ' Λ' ad' s' /\ Step (a1d X.env) σ ad Λ s.heap σ' ad' Λ' s'.heap /\ IsPart v i /\ Q i σ') (fun ζ ζ => False) s := by
 cases e with
 | none =>
  first | (replace he := b2p he; obtain ⟨_, rfl, he⟩ := he) | (replace he := b2o he; obtain ⟨rfl, he⟩ := he)
  ·exact wpAny_pure ⟨none, σ, Λ, ad, S, .refl, .none, t⟩
 | some e =>
  first | (replace he := b2p he; obtain ⟨x, rfl, he⟩ := he) | (replace he := b2o he; obtain ⟨rfl, he⟩ := he)
  ·skip
   refine wpAny_mono (t names sc x he X hk hr hw Λ ad s S) (fun v s' h => ?_) fun ζ ζ f => f
   obtain ⟨val, σ', Λ', ad', S', P', r, i, rfl, q⟩ := h
   obtain ⟨tk, rfl⟩ := r.dInv.intI
   exact ⟨some i, σ', Λ', ad', S', P', .int _ _, q⟩
theorem a6z (hF : ∀ a, F a -> used s a) {a sl : Addr} {vs : List Value} {n : Nat} {l : List D} {vl vu : Value} {lo hi : Option Int} (h1 : s.heap.get? a = some (LO vs n)) (r : DRels W.gl s.heap F vs l) (hz : l.length <= 16777216)
  (hs : s.heap.IsSliceOf sl vl vu .none) (pl : IsPart vl lo) (pu : IsPart vu hi) : Gives W A (getItem (.ref a) (.ref sl)) s F (.lst (a2a l lo hi)) := by
 have e : a2a vs lo hi = (slicePick vs.toArray lo hi none).toList := by
  simp [a2a, slicePick]
 have rr : DRels W.gl s.heap F (a2a vs lo hi) (a2a l lo hi) := by
  unfold a2a; erw [r.length]; exact r.pick _
 refine Gives.lst (n := 0) hF rr fun Q E q => ?_
 refine wpAny_getItem_list_slice (a0b h1) hs pl pu .none (by intro h; exact dNS h) ?_ (by simp only [List.size_toArray, r.length]; exact hz)
 have := q s.toks
 rw [e] at this
 simpa [LO] using this
theorem TE.slice {a : CE} {lo hi : Option CE} {Q : V -> List O -> Prop} (t : TE W k a ρ σ fun va σ1 => TEo W k lo ρ σ1 fun l σ2 => TEo W k hi ρ σ2 fun u σ3 => ∃ xs, lstV σ3 va = some xs /\ xs.length <= 16777216 /\ Q (.d (.lst (a2a xs l u))) σ3) : TE W k (.slice a lo hi) ρ σ Q :=
 fun names sc E he X hk hr hw Λ ad s S => by
  replace he := b2n he; obtain ⟨v, l, u, pos', pos, rfl, he⟩ := he
  ·skip
   simp only [Bool.and_eq_true] at he
   refine Subscript_ (wpAny_mono (t names sc v he.1.1 X hk hr hw Λ ad s S) (fun o s₁ h₁ => ?_) fun ζ ζ f => f)
   obtain ⟨va, σ1, Λ1, ad1, S1, P1, r₁, t₁⟩ := h₁
   refine wpAny_Slice (wpAny_mono (t₁.run he.1.2 hk hr hw S1) (fun vl s₂ h₂ => ?_) fun ζ ζ f => f)
   refine b5x h₂ fun i σ2 Λ2 ad2 S2 P2 pl t₂ => ?_
   refine wpAny_mono (t₂.run he.2 hk hr hw S2) (fun vu s₃ h₃ => ?_) fun ζ ζ f => f
   refine a7p h₃ fun j σ3 Λ3 ad3 S3 P3 pu xs e hz q => ?_
   refine wpAny_pure ?_
   have r3 := ((r₁.step S1 P2).step S2 P3)
   obtain ⟨b, vs, n, rfl, h1, h2⟩ := a3a S3 r3 e
   have kk : Kept X.env.locals s₃ { s₃ with heap := s₃.heap.push { cls := .type "slice", data := .fields #[vl, vu, .none] } } := a1p (t := s₃.toks)
   have h1' := Heap.get?_push_of_some { cls := .type "slice", data := .fields #[vl, vu, .none] } h1
   have S4 := S3.kept kk
   have g := a6z (W := W) (A := X.A) (F := Un Λ3 X.Φ) S4.usedF h1' (DRels.push h2) hz (.new _ vl vu .none) pl pu
   exact wpAny_mono (tail_any (a0b h1').typeIs slot_list_getitem.lookup (g.post S4 q) rfl) (fun v s5 p => (((p.trans (.of_kept S3 kk)).trans P3).trans P2).trans P1) fun ζ ζ f => f
theorem TE.cmp2 {o₁ o₂ : CmpOp} {a b c : CE} {Q : V -> List O -> Prop} (t : TE W k a ρ σ fun va σ1 => TE W k b ρ σ1 fun vb σ2 => ∃ r, CmpV o₁ σ2 va vb r /\ if r then TE W k c ρ σ2 (fun vc σ3 => ∃ r', CmpV o₂ σ3 vb vc r' /\ Q (.d (.bool r')) σ3) else Q (.d (.bool false)) σ2) : TE W k (.cmp2 o₁ o₂ a b c) ρ σ Q :=
 fun names sc E he X hk hr hw Λ ad s S => by
  replace he := b6m he; obtain ⟨l, o, o', r, r', pos, rfl, he⟩ := he
  ·skip
   simp only [Bool.and_eq_true, beq_iff_eq, Bool.not_eq_true'] at he
   obtain ⟨⟨⟨⟨⟨⟨rfl, rfl⟩, ha⟩, hb⟩, hc⟩, hm⟩, hm'⟩ := he
   refine Compare_chain (rs := []) (ops := []) (wpAny_mono (t names sc l ha X hk hr hw Λ ad s S) (fun x s₁ h₁ => ?_) fun ζ ζ f => f) (by simpa [lastMarks] using hm')
   obtain ⟨va, σ1, Λ1, ad1, S1, P1, r₁, t₁⟩ := h₁
   refine chain_link (wpAny_mono (t₁ names sc r hb X hk hr hw Λ1 ad1 s₁ S1) (fun y s₂ h₂ => ?_) fun ζ ζ f => f)
   obtain ⟨vb, σ2, Λ2, ad2, S2, P2, r₂, rb, cv, t₂⟩ := h₂
   refine a2k S2 hr cv (r₁.step S1 P2) r₂ X.env.locals S2.ns _ _ fun v s₃ kk dr => ?_
   obtain rfl := dr.boolI
   refine wpAny_truthy_bool ?_
   have S3 := S2.kept kk
   have P3 := Step.of_kept S2 kk
   have P := (P1.trans P2).trans P3
   cases rb with
   | false =>
    have := Post.here (t := s₃.toks) S3 (.d (.bool false)) t₂
    exact Post.trans P this
   | true =>
    refine chain_last (wpAny_mono (t₂ names sc r' hc X hk hr hw Λ2 ad2 s₃ S3) (fun z s₄ h₄ => ?_) fun ζ ζ f => f)
    obtain ⟨vc, σ4, Λ4, ad4, S4, P4, r4, rb', cv', q⟩ := h₄
    exact wpAny_mono ((a2k S4 hr cv' ((r₂.step S2 P3).step S3 P4) r4).post S4 q) (fun v s5 p => (p.trans P4).trans P) fun ζ ζ f => f
end
end Mine
end
section
open PySem PyProof.Rows PySem.SeqAt
namespace Mine
section
variable {W : World0} {k : Nat} {A : Around} {s s' : Shared} {F : Addr -> Prop}
variable {X : Cx} {names : List Str} {ρ : List (Option V)} {σ : List O} {Λ : Addr -> Prop} {ad : List Addr}
theorem a0o (h : Heap) : h.get? h.objs.size = none := by
 cases e : h.get? h.objs.size with
 | none => rfl
 | some o => exact absurd (Heap.lt_size e) (Nat.lt_irrefl _)
theorem b2x (h : Heap) (o : Obj) (hf : o.isFreed = false) : (h.push o).get? h.objs.size = some o := Heap.get?_push_size h hf
theorem Un.mono {Λ' Φ : Addr -> Prop} {h h' : Heap} (K : Keep Λ Λ' h h') {gl : Str -> Option Value} {vs : List Value} {l : List D} (r : DRels gl h (Un Λ Φ) vs l) : DRels gl h' (Un Λ' Φ) vs l := r.keep K.un
theorem St.size_ne (hw : W.ok X.hB) (S : St W.gl X names ρ σ Λ ad s) : s.heap.objs.size ≠ sysModules := fun h => by
 (refine xEA hw.nodigits fun mc ε0 ζ => ?_; obtain ⟨o, es, ep, e, _⟩ := ε0)
 have := Heap.lt_size (S.keep _ _ e)
 rw [h] at this
 exact absurd this (by decide)
theorem TE.lstR {es : List CE} {Q : V -> List O -> Prop} (t : TEs W k es ρ σ fun vals σ' => LstQ vals fun l => Q (.r σ'.length) (σ' ++ [.lst l])) : TE W k (.lst es) ρ σ Q := fun names sc E he X hk hr hw Λ ad s S => by
 replace he := c0e he; obtain ⟨_, _, rfl, he⟩ := he
 ·refine List_ (wpAny_mono (t.run he hk hr hw S _) (fun vs s₁ h₁ => ?_) fun ζ ζ f => f)
  obtain ⟨vals, σ1, Λ1, ad1, S1, P1, r, l, rfl, hl, q⟩ := h₁
  refine wpAny_newObj_type ?_ (by show vs.toArray.size <= sizeLine; erw [List.size_toArray, r.toD.length]; simpa [sizeLine] using hl)
  have hp := b2x s₁.heap (LO vs 0) rfl
  obtain ⟨S2, P2⟩ := S1.live (s' := { s₁ with heap := s₁.heap.push (LO vs 0) }) (a1p (t := s₁.toks)) (a0o s₁.heap) (o := .lst l) (by intro h; cases h)
   (fun Λ' ad' K pre => ⟨vs, 0, hp, Un.mono K r.toD⟩) ⟨_, hp⟩
  exact ⟨_, _, _, _, S2, P1.trans P2, .r (by erw [← S1.len]; simp), q⟩
theorem St.newDict (hw : W.ok X.hB) (S : St W.gl X names ρ σ Λ ad s) (o : O) (ho : o = .dI [] ∨ o = .dT []) :
  St W.gl X names ρ (σ ++ [o]) (fun b => Λ b ∨ b = s.heap.objs.size) (ad ++ [s.heap.objs.size]) { s with heap := s.heap.push (DO [] 0) } /\
  Step (a1d X.env) σ ad Λ s.heap (σ ++ [o]) (ad ++ [s.heap.objs.size]) (fun b => Λ b ∨ b = s.heap.objs.size) (s.heap.push (DO [] 0)) := by
 have hp := b2x s.heap (DO [] 0) rfl
 have hs := S.size_ne hw
 exact S.live (s' := { s with heap := s.heap.push (DO [] 0) }) (a1p (t := s.toks)) (a0o s.heap) (o := o) (by rcases ho with rfl | rfl <;> (intro h; cases h))
   (fun Λ' ad' K pre => by rcases ho with rfl | rfl <;> exact ⟨[], 0, hp, .nil, by simp, hs⟩) ⟨_, hp⟩
theorem TE.dct0 {Q : V -> List O -> Prop} (o : O) (ho : o = .dI [] ∨ o = .dT []) (q : Q (.r σ.length) (σ ++ [o])) : TE W k .dct0 ρ σ Q := fun names sc E he X hk hr hw Λ ad s S => by
 replace he := c4q he; obtain ⟨_, rfl, he⟩ := he
 ·refine wpAny_Dict_empty ?_
  obtain ⟨S2, P2⟩ := S.newDict hw o ho
  exact ⟨_, _, _, _, S2, P2, .r (by erw [← S.len]; simp), q⟩
theorem St.putI (S : St W.gl X names ρ σ Λ ad s) {i : Nat} {a : Addr} {l : List (Int × D)} {key : Int} {t : Tok} {x : D} {v : Value} (ea : ad[i]? = some a) (eo : σ[i]? = some (.dI l)) (hl : l.length <= 16777216) (r : DRel W.gl s.heap (Un Λ X.Φ) v x) :
  ∃ kvs, s.heap.DictOf (intKind W.p W.w) a kvs /\ kvs.length <= sizeLine /\ ∀ h' t', h'.DictOf (intKind W.p W.w) a (stored kvs key v) -> Heap.SameBut a s.heap h' ->
   St W.gl X names ρ (σ.set i (.dI (put l key x))) Λ ad { s with heap := h', toks := t' } /\ Step (a1d X.env) σ ad Λ s.heap (σ.set i (.dI (put l key x))) ad Λ h' := by
 (refine xA (S.objs i a _ ea eo (by intro h; cases h)) fun ζ ε0 => ?_; obtain ⟨es, n, h1, h2, h3⟩ := ε0)
 refine xEA (a7v (p := W.p) (w := W.w) h1 h2 h3.1) fun kvs hm kv => ?_
 refine ⟨kvs, hm, ?_, fun h' t' hm' hs' => ?_⟩
 ·have := congrArg List.length kv.keys
  simp only [List.length_map] at this
  erw [this]; exact hl
 ·have hex : ∃ ob, h'.get? a = some ob := let ⟨o, _, _, ho, _⟩ := hm'; ⟨o, ho⟩
  refine S.update (s' := { s with heap := h', toks := t' }) ea eo (by intro h; cases h) (by intro h; cases h) hs'.2 rfl rfl hex fun K => ?_
  refine a0u (c9b hm' ((kv.stored r).keep K.un)) fun es' n' e' r' nd => ?_
  exact ⟨es', n', e', r', nd, h3.2⟩
theorem St.putT (S : St W.gl X names ρ σ Λ ad s) {i : Nat} {a b : Addr} {l : List (List Int × D)} {key : List Int} {vs : List Value} {m : Nat} {x : D} {v : Value} (ea : ad[i]? = some a) (eo : σ[i]? = some (.dT l)) (hl : l.length <= 16777216)
  (hb : s.heap.get? b = some (TO vs m)) (hi : IntsAre vs key) (r : DRel W.gl s.heap (Un Λ X.Φ) v x) :
  ∃ xs, s.heap.DictOfH (tupleKind (intKind W.p W.w)) a xs /\ xs.length <= sizeLine /\ ∀ h' t', h'.DictOfH (tupleKind (intKind W.p W.w)) a (storedH xs key b v) -> Heap.SameBut a s.heap h' ->
   St W.gl X names ρ (σ.set i (.dT (put l key x))) Λ ad { s with heap := h', toks := t' } /\ Step (a1d X.env) σ ad Λ s.heap (σ.set i (.dT (put l key x))) ad Λ h' := by
 (refine xA (S.objs i a _ ea eo (by intro h; cases h)) fun ζ ε0 => ?_; obtain ⟨es, n, h1, h2, h3⟩ := ε0)
 refine xEA (b2v (p := W.p) (w := W.w) h1 h2 h3.1) fun kvs hm kv => ?_
 refine ⟨kvs, hm, ?_, fun h' t' hm' hs' => ?_⟩
 ·have := congrArg List.length kv.keys
  simp only [List.length_map] at this
  erw [this]; exact hl
 ·have hex : ∃ ob, h'.get? a = some ob := let ⟨o, _, _, ho, _⟩ := hm'; ⟨o, ho⟩
  refine S.update (s' := { s with heap := h', toks := t' }) ea eo (by intro h; cases h) (by intro h; cases h) hs'.2 rfl rfl hex fun K => ?_
  refine a0u (b4x hm' ((kv.stored hb hi r).keep K.un)) fun es' n' e' r' nd => ?_
  exact ⟨es', n', e', r', nd, h3.2⟩
theorem TE.dct1 {a b : CE} {Q : V -> List O -> Prop} (t : TE W k a ρ (σ ++ [.dT []]) fun vk σ1 => TE W k b ρ σ1 fun vv σ2 => ∃ ks x, vk = .d (.tup (ks.map .int)) /\ vv = .d x /\ σ2[σ.length]? = some (.dT []) /\ Q (.r σ.length) (σ2.set σ.length (.dT [(ks, x)]))) :
  TE W k (.dct1 a b) ρ σ Q := fun names sc E he X hk hr hw Λ ad s S => by
 replace he := c4r he; obtain ⟨ka, va, pos, rfl, he⟩ := he
 ·skip
  simp only [Bool.and_eq_true] at he
  obtain ⟨S1, P1⟩ := S.newDict hw (.dT []) (.inr rfl)
  refine wpAny_Dict_any rfl rfl (by simp) (by simp) ?_
  show wpAny _ _ (evalPairs [(eval ka X.env, do let x ← eval va X.env; standAt pos; pure x)]) _ _ _
  unfold evalPairs
  refine wpAny_bind (wpAny_mono (t names sc ka he.1 X hk hr hw _ _ _ S1) (fun x s₂ h₂ => ?_) fun ζ ζ f => f)
  obtain ⟨vk, σ2, Λ2, ad2, S2, P2, r₂, t₂⟩ := h₂
  refine wpAny_bind (wpAny_holding (wpAny_bind (wpAny_mono (t₂ names sc va he.2 X hk hr hw _ _ _ S2) (fun y s₃ h₃ => ?_) fun ζ ζ f => f)))
  obtain ⟨vv, σ3, Λ3, ad3, S3, P3, r3, ks, x', rfl, rfl, eo, q⟩ := h₃
  refine wpAny_bind (wpAny_standAt (wpAny_pure ?_))
  refine wpAny_bind (wpAny_holding ?_)
  unfold evalPairs
  refine wpAny_pure (wpAny_pure ?_)
  have d₂ := (r₂.step S2 P3).dInv
  have ea : ad3[σ.length]? = some s.heap.objs.size := P3.pre _ _ (P2.pre _ _ (by erw [← S.len]; simp))
  obtain ⟨bk, ws, mk, rfl, hb, hi⟩ := d₂.tupI
  ·refine xEAA (S3.putT ea eo (by simp) hb (a1e hi) r3.dInv) fun xs hm hz fin => ?_
   show wpAny _ _ (forIn _ _ _) _ _ _
   rw [List.forIn_cons]
   refine wpAny_bind (wpAny_bind (wpAny_dictSet_heap (knd := tupleKind (intKind W.p W.w)) (show X.A.units < cLine from hr.units (n := 0) (by decide)) (a1t hb (a1e hi)) hm (fun h' hm' hs' => ?_) hz))
   refine wpAny_pure ?_
   show wpAny _ _ (forIn _ _ _) _ _ _
   rw [List.forIn_nil]
   obtain ⟨S4, P4⟩ := fin h' _ hm' hs'
   exact wpAny_pure ⟨_, _, _, _, S4, ((P1.trans P2).trans P3).trans P4, .r ea, q⟩
theorem b2y (x : Str) (pos : Pos) (attr : Str) (env : Env) (whole : Sem Value) : attributeBase (.Name x pos) attr env whole = whole := rfl
theorem St.relist (S : St W.gl X names ρ σ Λ ad s) {i : Nat} {a : Addr} {l l' : List D} {vs vs' : List Value} {n n' : Nat} {t : Nat} (ea : ad[i]? = some a) (eo : σ[i]? = some (.lst l)) {h' : Heap} (hb : ∀ b, b ≠ a -> h'.get? b = s.heap.get? b) (e' : h'.get? a = some (LO vs' n')) (r : DRels W.gl s.heap (Un Λ X.Φ) vs' l') :
  St W.gl X names ρ (σ.set i (.lst l')) Λ ad { s with heap := h', toks := t } /\ Step (a1d X.env) σ ad Λ s.heap (σ.set i (.lst l')) ad Λ h' :=
 S.update (s' := { s with heap := h', toks := t }) ea eo (by intro h; cases h) (by intro h; cases h) hb rfl rfl ⟨_, e'⟩ fun K => ⟨vs', n', e', r.keep K.un⟩
theorem a5f {h : Heap} {a : Addr} {vs : List Value} {n : Nat} (e : h.get? a = some (LO vs n)) (f : Array Value -> Array Value) : ∃ n', (h.update a (Obj.mapSeq f)).get? a = some (LO (f vs.toArray).toList n') :=
 ⟨_, by simpa [LO] using PySem.IsL.update (show PySem.IsL h a vs.toArray n from e) f⟩
set_option tactic.hygienic true in
theorem a3y {i : Nat} {m : Str} {id : String} {pos : Pos} {args : List (Bool × Sem Value)} {Q : V -> List O -> Prop} {v : Value} {l : List D} (S : St W.gl X names ρ σ Λ ad s) (r : VRel W.gl s.heap Λ X.Φ ad v (.r i)) (eo : σ[i]? = some (.lst l))
  (slot : Slot "list" m id) (ty : typeOf (.builtin id) = pure (.type "method_descriptor"))
  (h : ∀ a vs n, v = .ref a -> ad[i]? = some a -> s.heap.get? a = some (LO vs n) -> DRels W.gl s.heap (Un Λ X.Φ) vs l -> wpAny (model W.p W.w) X.A (callWith pos (.builtin id) [.ref a] args []) (Post W.gl X names ρ σ Λ ad s Q) (fun ζ ζ => False) s) :
  MethodOnS W.p W.w X.A (fun ζ ζ => False) m v pos args (Post W.gl X names ρ σ Λ ad s Q) s := by
 cases r with
 | r e =>
  rename_i a
  obtain ⟨_, vs, n, h1, h2⟩ := S.objs i a _ e eo (by intro h; cases h)
  exact ⟨"list", id, PySem.F.plainAttrs_list, slot, ty, ⟨_, h1, rfl⟩, fun b hb => by cases hb; exact ⟨_, h1, rfl⟩, h a vs n rfl e h1 h2⟩
set_option tactic.hygienic true in
theorem TE.append {i : Nat} {e : CE} {j : Nat} {Q : V -> List O -> Prop} (hx : ρ[i]? = some (some (.r j))) (h0 : ∃ l, σ[j]? = some (.lst l)) (t : TE W k e ρ σ fun v σ' => ∃ x l, v = .d x /\ σ'[j]? = some (.lst l) /\ l.length <= 16777216 /\ Q (.d .none) (σ'.set j (.lst (l ++ [x])))) :
  TE W k (.meth (.var i) "append" [e]) ρ σ Q := fun names sc E he X hk hr hw Λ ad s S => by
 replace he := a7g he; obtain ⟨o, n, ap, args, pos, rfl, he⟩ := he
 ·skip
  simp only [Bool.and_eq_true, beq_iff_eq] at he
  obtain ⟨⟨⟨⟨hv, rfl⟩, hes⟩, _⟩, hl⟩ := he
  have hv' := hv
  replace hv' := b4s hv'; obtain ⟨_, _, rfl, hv'⟩ := hv'
  ·rename_i x px
   first | (replace hes := a0i hes; obtain ⟨x1, xs, rfl, hes⟩ := hes) | (replace hes := a0n hes; obtain ⟨rfl, hes⟩ := hes)
   ·skip
    simp only [Bool.and_eq_true] at hes
    obtain ⟨he1, hnil⟩ := hes
    first | (replace hnil := a0i hnil; obtain ⟨_, _, rfl, hnil⟩ := hnil) | (replace hnil := a0n hnil; obtain ⟨rfl, hnil⟩ := hnil)
    ·refine Call_method1 (b2y _ _ _ _ _) (a0v he1 _ _) (by simpa using hl) ?_
     refine wpAny_mono (TE.var (W := W) (k := k) (Q := fun v σ' => v = .r j /\ σ' = σ) hx ⟨rfl, rfl⟩ names sc _ hv X hk hr hw Λ ad s S) (fun v s₁ h₁ => ?_) fun ζ ζ f => f
     obtain ⟨val, σ1, Λ1, ad1, S1, P1, r₁, rfl, rfl⟩ := h₁
     obtain ⟨l0, h0⟩ := h0
     have key : MethodOnS W.p W.w X.A (fun ζ ζ => False) (Str.ofString "append") v pos [(false, eval x1 X.env)] (Post W.gl X names ρ σ1 Λ1 ad1 s₁ Q) s₁ := by
      refine a3y S1 r₁ h0 PySem.F.slot_list_append PySem.F.type_list_append fun a vs n hva ea h1 h2 => ?_
      refine PySem.P.append_list (wpAny_mono (t names sc x1 he1 X hk hr hw Λ1 ad1 s₁ S1) (fun y s₂ h₂ => ?_) fun ζ ζ f => f)
      obtain ⟨val, σ2, Λ2, ad2, S2, P2, r₂, x', l, rfl, eo, hlen, q⟩ := h₂
      have ea' := P2.pre _ _ ea
      obtain ⟨_, vs', n', h1', h2'⟩ := S2.objs j a _ ea' eo (by intro h; cases h)
      refine ⟨vs'.toArray, n', by simp only [List.size_toArray, h2'.length]; exact hlen, h1', ?_⟩
      obtain ⟨n'', e''⟩ := a5f h1' fun xs => xs.push y
      obtain ⟨S3, P3⟩ := S2.relist (t := s₂.toks) (n := n') (vs := vs') ea' eo (h' := s₂.heap.update a (Obj.mapSeq fun xs => xs.push y)) (fun b hb => Heap.get?_update_other _ _ (Ne.symm hb)) e'' (l' := l ++ [x']) (by
       have := h2'.append (.cons r₂.dInv .nil)
       simpa using this)
      exact ⟨_, _, _, _, S3, P2.trans P3, .d .none, q⟩
     obtain ⟨T, id, h1, h2, h3, h4, h5, h6⟩ := key
     exact ⟨T, id, h1, h2, h3, h4, h5, wpAny_mono h6 (fun v s₂ p => p.trans P1) fun ζ ζ f => f⟩
set_option tactic.hygienic true in
theorem TE.insert {i : Nat} {e f : CE} {j : Nat} {Q : V -> List O -> Prop} (hx : ρ[i]? = some (some (.r j))) (h0 : ∃ l, σ[j]? = some (.lst l)) (t : TE W k e ρ σ fun w σ1 => w = .d (.int 0) /\ TE W k f ρ σ1 fun v σ' => ∃ x l, v = .d x /\ σ'[j]? = some (.lst l) /\ l.length <= 16777216 /\ Q (.d .none) (σ'.set j (.lst (x :: l)))) :
  TE W k (.meth (.var i) "insert" [e, f]) ρ σ Q := fun names sc E he X hk hr hw Λ ad s S => by
 replace he := a7g he; obtain ⟨o, n, ap, args, pos, rfl, he⟩ := he
 ·skip
  simp only [Bool.and_eq_true, beq_iff_eq] at he
  obtain ⟨⟨⟨⟨hv, rfl⟩, hes⟩, _⟩, hl⟩ := he
  have hv' := hv
  replace hv' := b4s hv'; obtain ⟨_, _, rfl, hv'⟩ := hv'
  ·rename_i x px
   first | (replace hes := a0i hes; obtain ⟨x1, xs, rfl, hes⟩ := hes) | (replace hes := a0n hes; obtain ⟨rfl, hes⟩ := hes)
   ·skip
    simp only [Bool.and_eq_true] at hes
    obtain ⟨he1, hes⟩ := hes
    first | (replace hes := a0i hes; obtain ⟨x2, xs, rfl, hes⟩ := hes) | (replace hes := a0n hes; obtain ⟨rfl, hes⟩ := hes)
    ·skip
     simp only [Bool.and_eq_true] at hes
     obtain ⟨he2, hnil⟩ := hes
     first | (replace hnil := a0i hnil; obtain ⟨_, _, rfl, hnil⟩ := hnil) | (replace hnil := a0n hnil; obtain ⟨rfl, hnil⟩ := hnil)
     ·refine Call_method2 (b2y _ _ _ _ _) (by erw [a0v he1, a0v he2]; rfl) (by simpa using hl) ?_
      refine wpAny_mono (TE.var (W := W) (k := k) (Q := fun v σ' => v = .r j /\ σ' = σ) hx ⟨rfl, rfl⟩ names sc _ hv X hk hr hw Λ ad s S) (fun v s₁ h₁ => ?_) fun ζ ζ f => f
      obtain ⟨val, σ1, Λ1, ad1, S1, P1, r₁, rfl, rfl⟩ := h₁
      obtain ⟨l0, h0⟩ := h0
      have key : MethodOnS W.p W.w X.A (fun ζ ζ => False) (Str.ofString "insert") v pos [(false, eval x1 X.env), (false, eval x2 X.env)] (Post W.gl X names ρ σ1 Λ1 ad1 s₁ Q) s₁ := by
       refine a3y S1 r₁ h0 PySem.F.slot_list_insert PySem.F.type_list_insert fun a vs n hva ea h1 h2 => ?_
       refine method_meets PySem.F.slot_list_insert PySem.F.entry_list_insert rfl (Calls.evalArgs_plain (Calls.spliced_cons (wpAny_mono (t names sc x1 he1 X hk hr hw Λ1 ad1 s₁ S1) (fun y s₂ h₂ => ?_) fun ζ ζ f => f)))
       obtain ⟨val1, σ2, Λ2, ad2, S2, P2, r₂, rfl, t₂⟩ := h₂
       refine Calls.spliced_cons (wpAny_mono (t₂ names sc x2 he2 X hk hr hw Λ2 ad2 s₂ S2) (fun z s₃ h₃ => Calls.spliced_nil ⟨rfl, ?_⟩) fun ζ ζ f => f)
       obtain ⟨val2, σ3, Λ3, ad3, S3, P3, r3, x', l, rfl, eo, hlen, q⟩ := h₃
       obtain ⟨tk, rfl⟩ := r₂.dInv.intI
       have ea' := P3.pre _ _ (P2.pre _ _ ea)
       obtain ⟨_, vs', n', h1', h2'⟩ := S3.objs j a _ ea' eo (by intro h; cases h)
       refine ⟨⟨_, h1', rfl⟩, PySem.F.args_list_insert_3 _ _ _, _, PySem.AutoSeq1.list_insert_list_int_val_1 a vs'.toArray n' 0 _ z (by decide) (by simp only [List.size_toArray, h2'.length]; exact hlen), h1', ?_⟩
       refine xE (a5f h1' fun xs => have k := if (0 : Int) < 0 then (0 + (xs.size : Int)).toNat else min (0 : Int).toNat xs.size; (xs.extract 0 k).push z ++ xs.extract k) fun n'' e'' => ?_
       obtain ⟨S4, P4⟩ := S3.relist (t := s₃.toks) (n := n') (vs := vs') ea' eo (h' := s₃.heap.update a (Obj.mapSeq fun xs => have k := if (0 : Int) < 0 then (0 + (xs.size : Int)).toNat else min (0 : Int).toNat xs.size; (xs.extract 0 k).push z ++ xs.extract k)) (fun b hb => Heap.get?_update_other _ _ (Ne.symm hb)) e'' (l' := x' :: l) (by
        simp
        exact DRels.cons r3.dInv h2')
       exact ⟨_, _, _, _, S4, (P2.trans P3).trans P4, .d .none, q⟩
      obtain ⟨T, id, h1, h2, h3, h4, h5, h6⟩ := key
      exact ⟨T, id, h1, h2, h3, h4, h5, wpAny_mono h6 (fun v s₂ p => p.trans P1) fun ζ ζ f => f⟩
end
end Mine
end
section
open PySem PyProof.Rows PySem.SeqAt
namespace Mine
theorem a9q {α β : Type} [BEq α] [LawfulBEq α] : ∀ {xs : List α} {ys : List β} {x : α}, ys.length = xs.length -> x ∈ xs -> ∃ y, (xs.zip ys).lookup x = some y
 | [], _, _, _, h => by cases h
 | a :: xs, [], _, hl, _ => by simp at hl
 | a :: xs, b :: ys, x, hl, h => by
  simp only [List.zip_cons_cons, List.lookup_cons]
  cases e : x == a with
  | true => exact ⟨b, rfl⟩
  | false =>
   have : x ∈ xs := by
    rcases List.mem_cons.mp h with rfl | h
    ·simp at e
    ·exact h
   exact a9q (by simpa using hl) this
theorem a3h {α β : Type} {f g : α -> Option β} : ∀ {l : List α}, (∀ x ∈ l, f x = g x) -> l.filterMap f = l.filterMap g
 | [], _ => rfl
 | a :: l, h => by
  simp only [List.filterMap_cons]
  erw [h a List.mem_cons_self, a3h fun x hx => h x (List.mem_cons_of_mem _ hx)]
theorem a5g {α β : Type} [BEq α] [LawfulBEq α] : ∀ {xs : List α} {ys : List β}, ys.length = xs.length -> xs.Nodup -> xs.filterMap (fun n => ((xs.zip ys).lookup n).map (n, ·)) = xs.zip ys
 | [], ys, _, _ => by simp
 | a :: xs, [], hl, _ => by simp at hl
 | a :: xs, b :: ys, hl, nd => by
  obtain ⟨n1, n2⟩ := List.nodup_cons.mp nd
  simp only [List.zip_cons_cons, List.filterMap_cons, List.lookup_cons, beq_self_eq_true, Option.map_some]
  congr 1
  refine Eq.trans (a3h fun x hx => ?_) (a5g (ys := ys) (by simpa using hl) n2)
  have : (x == a) = false := by
   rw [beq_eq_false_iff_ne]; rintro rfl; exact n1 hx
  erw [this]
theorem c7l {α : Type} {c : Prop} {i : Decidable c} {a b x : α} (hc : ¬ c) (h : b = x) : @ite α c i a b = x := (if_neg hc).trans h
theorem b4z {α β γ δ : Type} {xs : List α} {zs : List β} {i : γ} {f : (α × β) -> γ -> Sem (ForInStep γ)} {g : γ -> Sem δ} {r : Sem δ} (hz : zs = []) (h : g i = r) : (forIn (xs.zip zs) i f >>= g) = r := by
 subst hz; erw [List.zip_nil_right]; exact h
theorem c9f {ns : List Str} {n : Nat} {zs : List Value} {p : Str -> Bool} (hn : n = ns.length) (hz : zs = []) (h : ns.filter p = []) : ¬ ((!((List.take (n - zs.length) ns).filter p).isEmpty) = true) := by
 subst hz; subst hn; erw [List.length_nil, Nat.sub_zero, List.take_length, h]; exact Bool.false_ne_true
theorem c0r {p : Arguments} (h1 : p.posonlyargs = []) (h3 : p.vararg = none) (h4 : p.kwonlyargs = []) (h5 : p.kwarg = none) : p = ⟨[], p.args, none, [], p.kw_defaults, none, p.defaults⟩ := by
 cases p; cases h1; cases h3; cases h4; cases h5; rfl
theorem b5a {ar : List Arg} {fd : FuncData} {kd : List (Option Expr)} {df : List Expr} {vals : List Value} (hp : fd.params = ⟨[], ar, none, [], kd, none, df⟩) (hd : fd.defaults = .none)
  (h0 : ¬ ((decide (vals.length > (ar.map (·.arg)).length) && true) = true)) (e1 : (ar.map (·.arg)).filter (fun n => (((ar.map (·.arg)).zip vals).lookup n).isNone) = [])
  (e2 : (ar.map (·.arg)).filterMap (fun n => (((ar.map (·.arg)).zip vals).lookup n).map (n, ·)) = (ar.map (·.arg)).zip vals) : bindArgs fd ⟨vals, []⟩ = pure ((ar.map (·.arg)).zip vals) := by
 obtain ⟨nm, qn, p, bd, sc, gl, cl, dfs, kdf, dc, pm, an, co, ct⟩ := fd
 cases hp; cases hd
 refine c7l (c := (decide (vals.length > (ar.map (·.arg)).length) && true) = true) h0 ?_
 refine c7l (c9f (n := (ar.map (·.arg)).length) (zs := List.drop (0 - (ar.map (·.arg)).length) []) rfl List.drop_nil e1) ?_
 refine b4z (zs := List.drop (0 - (ar.map (·.arg)).length) ([] : List Value)) List.drop_nil ?_
 exact congrArg (pure (f := Sem)) ((congrArg _ (List.append_nil _)).trans e2)
theorem a9d {fd : FuncData} {vals : List Value} (h1 : fd.params.posonlyargs = []) (h3 : fd.params.vararg = none) (h4 : fd.params.kwonlyargs = []) (h5 : fd.params.kwarg = none) (hd : fd.defaults = .none)
  (hl : vals.length = fd.params.args.length) (nd : (fd.params.args.map (·.arg)).Nodup) : bindArgs fd ⟨vals, []⟩ = pure ((fd.params.args.map (·.arg)).zip vals) :=
 have hl' : vals.length = (fd.params.args.map (·.arg)).length := hl.trans (List.length_map _).symm
 b5a (c0r h1 h3 h4 h5) hd (fun h => Nat.lt_irrefl _ (Nat.lt_of_lt_of_eq (of_decide_eq_true ((Bool.and_true _).symm.trans h)) hl')) (List.filter_eq_nil_iff.2 fun x hx => by
  obtain ⟨y, hy⟩ := a9q hl' hx
  erw [hy]; exact Bool.false_ne_true) (a5g hl' nd)
theorem Room.deeper {A : Around} {k : Nat} (h : Room A (k + 1)) (env : Env) : Room (A.deeper env) k :=
 ⟨h.1, by have := h.2.1; show A.depth + 1 + k < _; exact om7 this, by have := h.2.2; show A.units + 3 + 5 * k + 300 < _; exact om8 this⟩
set_option tactic.hygienic true in
mutual
noncomputable def ownD (σ : List O) : V -> Option D
 | .d x => some x
 | .a x => if nolist x then some x else none
 | .r i => c5b σ[i]?
 | .t l => oTup (c9g σ l)
noncomputable def c9g (σ : List O) : List V -> Option (List D)
 | [] => some []
 | v :: vs => c8z (ownD σ v) (c9g σ vs)
end
section
variable {gl : Str -> Option Value} {X : Cx} {names : List Str} {ρ : List (Option V)} {σ : List O} {Λ Λ' Φ : Addr -> Prop} {ad : List Addr} {s : Shared} {h : Heap}
theorem St.new_phi (S : St gl X names ρ σ Λ ad s) {a : Addr} (l : Λ a) : ¬ X.Φ a := fun p => by
 obtain ⟨o, e⟩ := S.phi a p
 rw [S.new a l] at e; exact dNS e
theorem c0s {h : Heap} {Φ : Addr -> Prop} {a : Addr} {x : D} (o : Option O) (k : ∀ o', o = some o' -> o' ≠ .dead -> ¬ Φ a /\ ORel gl h Λ Φ ad a o') (e : c5b o = some x) : DRel gl h Φ (.ref a) x := by
 cases o with
 | none => exact cNS e
 | some o => cases o with
  | lst l => obtain ⟨hl, vs, n, h1, h2⟩ := k _ rfl nofun; exact a0l e ▸ .lst h1 hl (h2.keep (.weak fun ζ h => .inr h))
  | dI l => obtain ⟨hl, vs, n, h1, h2, h3⟩ := k _ rfl nofun; exact a0l e ▸ .dI h1 hl (h2.keep (.weak fun ζ h => .inr h)) h3
  | dT l => obtain ⟨hl, vs, n, h1, h2, h3⟩ := k _ rfl nofun; exact a0l e ▸ .dT h1 hl (h2.keep (.weak fun ζ h => .inr h)) h3
  | _ => exact cNS e
theorem c9h (S : St gl X names ρ σ Λ ad s) {v : Value} {val : V} {x : D} (r : VRel gl s.heap Λ X.Φ ad v val) (e : ownD σ val = some x) : DRel gl s.heap X.Φ v x := by
 refine VRel.rec (motive_1 := fun v val ζ => ∀ x, ownD σ val = some x -> DRel gl s.heap X.Φ v x) (motive_2 := fun vs vals ζ => ∀ xs, c9g σ vals = some xs -> DRels gl s.heap X.Φ vs xs) ?_ ?_ ?_ ?_ ?_ ?_ r x e
 ·intro v x r y e; cases Option.some.inj (e : some x = some y); exact r.keep (.weak fun ζ h => .inr h)
 ·intro v x r y e
  exact (a2n e).2 ▸ r.nolist (a2n e).1
 ·intro a i e' x e
  exact c0s (σ[i]?) (fun o hs hn => ⟨S.new_phi (S.objs i a o e' hs hn).1, (S.objs i a o e' hs hn).2⟩) e
 ·intro a vs n l e' _ ih x e
  obtain ⟨l', hs, rfl⟩ := b2u e
  exact .tup e' (ih l' hs)
 ·intro xs e; cases Option.some.inj (e : some [] = some xs); exact .nil
 ·intro v y vs l _ _ iha ihb xs e
  obtain ⟨y, ys, h1, h2, rfl⟩ := a9o e
  exact .cons (iha y h1) (ihb ys h2)
end
noncomputable def outD (σ : List O) : Out -> Option D
 | .next => some .none
 | .ret v => ownD σ v
noncomputable def Fun (W : World0) (k : Nat) (f : String) (args : List V) (R : D -> Prop) : Prop :=
 ∀ A s vs Φ, Room A k -> W.ok s.heap -> (∀ a, Φ a -> used s a) -> VRels W.gl s.heap noL Φ [] vs args -> ∀ a, W.gl (Str.ofString f) = some (.ref a) ->
  (∃ o fd, s.heap.get? a = some o /\ o.data = .func fd) /\
  wpAny (model W.p W.w) A (call (.ref a) vs) (fun v s' => ∃ r, R r /\ (∀ b o, s.heap.get? b = some o -> s'.heap.get? b = some o) /\ s'.os = s.os /\ s'.gens = s.gens /\ DRel W.gl s'.heap Φ v r) (fun ζ ζ => False) s
theorem a7x {kd : Str -> Option NameKind} : ∀ {binds : List (Str × Value)} {m : Str -> Option Value} {x : Str}, x ∉ binds.map (·.1) -> bindL kd binds m x = m x
 | [], m, x, _ => rfl
 | (n, v) :: r, m, x, h => by
  simp only [List.map_cons, List.mem_cons, not_or] at h
  unfold bindL
  erw [a7x h.2]
  split
  ·simp [h.1]
  ·rfl
theorem a7y {kd : Str -> Option NameKind} : ∀ {binds : List (Str × Value)} {m : Str -> Option Value} {x : Str}, x ∉ binds.map (·.1) -> bindC kd binds m x = m x
 | [], m, x, _ => rfl
 | (n, v) :: r, m, x, h => by
  simp only [List.map_cons, List.mem_cons, not_or] at h
  unfold bindC
  erw [a7y h.2]
  split
  ·rfl
  ·simp [h.1]
theorem c0t {kd : Str -> Option NameKind} {binds : List (Str × Value)} {x : Str} {v : Value} (nd : (binds.map (·.1)).Nodup) (hm : (x, v) ∈ binds) (hk : kd x = some .local) : ∀ {m : Str -> Option Value}, bindL kd binds m x = some v := by
 induction binds with
 | nil => exact nomatch hm
 | cons p r ih =>
  intro m
  obtain ⟨n1, n2⟩ := List.nodup_cons.mp nd
  rcases List.mem_cons.mp hm with rfl | hm
  ·show bindL kd r _ x = some v
   erw [a7x n1, if_pos hk]; exact if_pos rfl
  ·exact ih n2 hm
theorem c0u {kd : Str -> Option NameKind} {binds : List (Str × Value)} {x : Str} {v : Value} (nd : (binds.map (·.1)).Nodup) (hm : (x, v) ∈ binds) (hk : kd x ≠ some .local) : ∀ {m : Str -> Option Value}, bindC kd binds m x = some v := by
 induction binds with
 | nil => exact nomatch hm
 | cons p r ih =>
  intro m
  obtain ⟨n1, n2⟩ := List.nodup_cons.mp nd
  rcases List.mem_cons.mp hm with rfl | hm
  ·show bindC kd r _ x = some v
   erw [a7y n1, if_neg hk]; exact if_pos rfl
  ·exact ih n2 hm
set_option tactic.hygienic true in
theorem a2x : ∀ {l : List (Str × NameKind)} {acc : List (Str × Addr)} {x : Str} {n : Nat}, ((acc.lookup x).isSome = true ∨ (x, .cell) ∈ l) -> ((cellsFrom n l acc).lookup x).isSome = true
 | [], acc, x, n, h => by
  unfold cellsFrom
  rcases h with h | h
  ·exact h
  ·cases h
 | (y, kd) :: r, acc, x, n, h => by
  unfold cellsFrom
  split
  ·rename_i hk
   refine a2x ?_
   by_cases hy : x = y
   ·subst hy; left; simp
   ·rcases h with h | h
    ·left; erw [List.lookup_cons, show (x == y) = false by simpa using hy]; exact h
    ·rcases List.mem_cons.mp h with e | h
     ·cases e; exact absurd rfl hy
     ·exact .inr h
  ·rename_i hk
   refine a2x ?_
   rcases h with h | h
   ·exact .inl h
   ·rcases List.mem_cons.mp h with e | h
    ·cases e; exact absurd rfl hk
    ·exact .inr h
set_option tactic.hygienic true in
theorem a7z : ∀ {names : List Str} {x : Str} {i : Nat}, vis names x = some i -> names[i]? = some x
 | [], x, i, h => by exact dNS h
 | y :: ys, x, i, h => by
  unfold vis at h
  cases e : vis ys x with
  | some j => rw [e] at h; simp only [Option.some.injEq] at h; subst h; simpa using a7z e
  | none =>
   rw [e] at h
   simp only at h
   split at h
   ·rename_i hb; cases h; simp [beq_iff_eq.mp hb]
   ·exact dNS h
theorem c5e {args : List V} {n i : Nat} {val : V} (h : (args.map some ++ List.replicate n none)[i]? = some (some val)) : args[i]? = some val := by
 rcases Nat.lt_or_ge i args.length with hl | hl
 ·rw [List.getElem?_append_left (by simpa using hl)] at h
  simpa using h
 ·rw [List.getElem?_append_right (by simpa using hl)] at h
  rw [List.getElem?_replicate] at h
  split at h <;> simp at h
section
variable {W : World0} {k : Nat}
theorem Fun.startG {f : String} {cf : CF} {args : List V} {ad : List Addr} (hf : HasF W f cf) (hlen : args.length = cf.nparams) {A : Around} {s : Shared} {vs : List Value} {Φ : Addr -> Prop} (hdp : A.depth + 1 < recursionLimit) (hw : W.ok s.heap) (hΦ : ∀ a, Φ a -> used s a) (hnd' : ad.Nodup) (had : ∀ a ∈ ad, ∃ o, s.heap.get? a = some o) (rel : VRels W.gl s.heap noL Φ ad vs args) {a : Addr} (ha : W.gl (Str.ofString f) = some (.ref a)) {R : Result -> Shared -> Prop}
  (body : ∀ (names : List Str) (sc : Scope) (S : List Stmt) (X : Cx) (s₁ : Shared), isSs names sc cf.body S = true -> KindsOk X.env sc -> X.A = A.deeper X.env -> X.hB = s.heap -> X.os = s.os -> X.gens = s.gens -> X.Φ = Φ -> X.env.frame = some X.env.locals -> St W.gl X names (args.map some ++ List.replicate (cf.nvars - cf.nparams) none) (ad.map fun ζ => O.dead) (fun a => a = X.env.locals) ad s₁ ->
   wpAny (model W.p W.w) X.A (execs S X.env) (fun fl s' => R (.ok (.ret (match fl with | .ret v => v | _ => .none))) s') (fun e s' => wpAny (model W.p W.w) X.A (leaving X.env e) (fun ζ s'' => R (.error e) s'') (fun e' s'' => R (.error e') s'') s') s₁) :
  (∃ o fd, s.heap.get? a = some o /\ o.data = .func fd) /\ codeAny (model W.p W.w) A (.call (.ref a) ⟨vs, []⟩) R s := by
 obtain ⟨d, hd, hname, hf⟩ := hf
 refine a4y (hw.fn d hd) fun a' o pm code doc hg ho hdat hcr => ?_
 have hg' : W.gl d.name = some (.ref a') := hg
 rw [hname, ha] at hg'
 cases hg'
 refine ⟨⟨o, _, ho, hdat⟩, ?_⟩
 unfold isF at hf
 simp only [Bool.and_eq_true, decide_eq_true_eq, List.all_eq_true, beq_iff_eq, List.isEmpty_iff, Option.isNone_iff_eq_none] at hf
 obtain ⟨⟨⟨⟨⟨⟨⟨hps, hp1⟩, hp2⟩, hp3⟩, hp4⟩, hp5⟩, hp6⟩, ⟨⟨⟨⟨⟨hn1, hn2⟩, hn3⟩, hn4⟩, hn5⟩, hbody⟩⟩ := hf
 unfold a6b at hps
 simp only [Bool.and_eq_true, beq_iff_eq, Bool.not_eq_true'] at hps
 obtain ⟨⟨hkd, hgn⟩, hco⟩ := hps
 have hvl : vs.length = d.params.args.length := by erw [rel.length, hlen, hn1]
 have hnd : (d.params.args.map (·.arg)).Nodup := by erw [hn3]; exact hn4.sublist (List.take_sublist _ _)
 have hbind := a9d (fd := Calls.docDef d.name d.params d.body d.scope pm code doc) (vals := vs) hp1 hp2 hp3 hp4 rfl hvl hnd
 have hmem : ∀ x : Str, x ∈ (d.scope.names.filter fun y => y.2 == .local || y.2 == .cell).map (·.1) -> d.scope.names.lookup x = some .local ∨ (d.scope.names.lookup x = some .cell /\ (x, NameKind.cell) ∈ d.scope.names) := fun x hx => by
  obtain ⟨⟨y, kd⟩, hy, rfl⟩ := List.mem_map.mp hx
  obtain ⟨hy1, hy2⟩ := List.mem_filter.mp hy
  have := (hn5 _ hy1).2
  simp only [Bool.or_eq_true, beq_iff_eq] at hy2
  rcases hy2 with h | h
  ·left; erw [this]; exact congrArg some h
  ·right; erw [this]; subst h; exact ⟨rfl, hy1⟩
 have hbm : ∀ x ∈ (d.params.args.map (·.arg)).zip vs, x.1 ∈ (d.scope.names.filter fun y => y.2 == .local || y.2 == .cell).map (·.1) := fun x hx => by
  have := (List.of_mem_zip hx).1
  rw [hn3] at this
  exact List.mem_of_mem_take this
 refine call_cells (Nat.lt_of_succ_lt hdp) ho hdat hw.nolimit hcr hbind (fun x hx => ?_) (fun h₁ tk F C => ?_) hco hgn hkd
 ·rcases hmem x.1 (hbm x hx) with h | ⟨h1, h2⟩
  ·exact .inl h
  ·exact .inr ⟨h1, a2x (.inr h2)⟩
 ·let env := envOfC d.name d.scope s.heap.objs.size a code
  let X : Cx := { env := env, hB := s.heap, A := A.deeper env, os := s.os, gens := s.gens, Φ := Φ }
  have hbf : ((d.params.args.map (·.arg)).zip vs).map (·.1) = d.params.args.map (·.arg) := List.map_fst_zip (by simp [hvl])
  have K : Keep noL (fun a => a = s.heap.objs.size) s.heap h₁ := ⟨fun a vs n e => F.keep a _ e, fun a o ζ ζ e => F.keep a o e, fun a o ζ ζ e h => (by
   subst h; rw [a0o] at e; cases e)⟩
  have rel1 : VRels W.gl h₁ (fun a => a = s.heap.objs.size) Φ ad vs args := rel.keep K fun ζ ζ e => e
  have S : St W.gl X ((d.scope.names.filter fun y => y.2 == .local || y.2 == .cell).map (·.1)) (args.map some ++ List.replicate (cf.nvars - cf.nparams) none) (ad.map fun ζ => O.dead) (fun a => a = s.heap.objs.size) ad { s with heap := h₁, toks := tk } := by
   refine ⟨F.keep, rfl, rfl, fun a h => by subst h; exact a0o _, fun a h => ?_, fun a h => hΦ a h, hnd', (List.length_map _).symm, fun a h => ?_, fun i a o ζ e hd => ?_, rfl, fun h => ?_, fun x c ζ hc => ?_, ?_, ?_⟩
   ·subst h; obtain ⟨o, _, _, e, _⟩ := F.ns; exact ⟨o, e⟩
   ·obtain ⟨o, e⟩ := had a h; exact ⟨o, F.keep a o e⟩
   ·rw [List.getElem?_map] at e
    obtain ⟨_, _, rfl⟩ := Option.map_eq_some_iff.mp e
    exact absurd rfl hd
   ·obtain ⟨o, e⟩ := had _ h
    have e' : s.heap.get? s.heap.objs.size = some o := e
    rw [a0o] at e'; cases e'
   ·have := C.above x c (mem_of_lookup hc)
    cases e : s.heap.get? c with
    | none => rfl
    | some o => exact absurd (Nat.lt_trans this (Heap.lt_size e)) (Nat.lt_irrefl _)
   ·have h1 := congrArg List.length hn3
    simp only [List.length_map, List.length_take] at h1
    simp only [List.length_append, List.length_map, List.length_replicate]
    simp only [List.length_map] at hn2
    exact om9 hlen hn2 hn1 h1
   ·refine ⟨_, _, F.ns, C.cell, fun x i val hv hi => ?_⟩
    have hi' := c5e hi
    have hx := a7z hv
    have hlt : i < cf.nparams := by erw [← hlen]; exact (List.getElem?_eq_some_iff.mp hi').1
    have hx' : (d.params.args.map (·.arg))[i]? = some x := by erw [hn3, List.getElem?_take_of_lt hlt]; exact hx
    refine xEA (rel1.get hi') fun v hv' rv => ?_
    have hz : (x, v) ∈ (d.params.args.map (·.arg)).zip vs := List.mem_of_getElem? (i := i) (by rw [List.getElem?_zip_eq_some]; exact ⟨hx', hv'⟩)
    refine ⟨fun hl => ⟨v, c0t (by show (((d.params.args.map (·.arg)).zip vs).map (·.1)).Nodup; erw [hbf]; exact hnd) hz hl, rv⟩, fun hl => ?_⟩
    have hne : env.kindOf x ≠ some .local := by rcases hl with h | h <;> (erw [show env.kindOf x = _ from h]; intro h'; cases h')
    rcases hmem x (hbm _ hz) with h | ⟨h1, h2⟩
    ·exact absurd h hne
    ·have := a2x (n := s.heap.objs.size + 1) (acc := []) (.inr h2)
     refine xE (Option.isSome_iff_exists.mp this) fun c hc => ?_
     exact ⟨c, v, hc, c0u (by show (((d.params.args.map (·.arg)).zip vs).map (·.1)).Nodup; erw [hbf]; exact hnd) hz hne, rv⟩
  have hk : KindsOk X.env d.scope := ⟨hkd, rfl, rfl, fun ζ h => h, fun ζ h => h, fun ζ h => h, fun ζ => C.apart, fun x h => by
    rcases h with h | h
    ·exact Option.isSome_iff_exists.mp (a2x (.inr (mem_of_lookup h)))
    ·have := (hn5 _ (mem_of_lookup h)).1
     simp at this, fun ζ h => h⟩
  exact body _ d.scope d.body X _ hbody hk rfl rfl rfl rfl rfl rfl S
theorem Fun.start {f : String} {cf : CF} {args : List V} (hf : HasF W f cf) (hlen : args.length = cf.nparams) {A : Around} {s : Shared} {vs : List Value} {Φ : Addr -> Prop} (hr : Room A (k + 1)) (hw : W.ok s.heap) (hΦ : ∀ a, Φ a -> used s a) (rel : VRels W.gl s.heap noL Φ [] vs args) {a : Addr} (ha : W.gl (Str.ofString f) = some (.ref a)) {R : Result -> Shared -> Prop}
  (body : ∀ (names : List Str) (sc : Scope) (S : List Stmt) (X : Cx) (Λ : Addr -> Prop) (s₁ : Shared), isSs names sc cf.body S = true -> KindsOk X.env sc -> Room X.A k -> X.A = A.deeper X.env -> X.hB = s.heap -> X.os = s.os -> X.gens = s.gens -> X.Φ = Φ -> X.env.frame = some X.env.locals -> St W.gl X names (args.map some ++ List.replicate (cf.nvars - cf.nparams) none) [] Λ [] s₁ ->
   wpAny (model W.p W.w) X.A (execs S X.env) (fun fl s' => R (.ok (.ret (match fl with | .ret v => v | _ => .none))) s') (fun e s' => wpAny (model W.p W.w) X.A (leaving X.env e) (fun ζ s'' => R (.error e) s'') (fun e' s'' => R (.error e') s'') s') s₁) :
  (∃ o fd, s.heap.get? a = some o /\ o.data = .func fd) /\ codeAny (model W.p W.w) A (.call (.ref a) ⟨vs, []⟩) R s :=
 Fun.startG hf hlen (by have := hr.2.1; exact om10 this) hw hΦ .nil (fun a h => absurd h List.not_mem_nil) rel ha fun names sc S X s₁ hb hk hA hB hos hgn hPh hfr St =>
  body names sc S X _ s₁ hb hk (hA ▸ hr.deeper X.env) hA hB hos hgn hPh hfr St
theorem Fun.intro {f : String} {cf : CF} {args : List V} {R : D -> Prop} (hf : HasF W f cf) (hlen : args.length = cf.nparams)
  (t : TS W k cf.body (args.map some ++ List.replicate (cf.nvars - cf.nparams) none) [] fun out ζ σ' => ∃ r, outD σ' out = some r /\ R r) : Fun W (k + 1) f args R :=
 fun A s vs Φ hr hw hΦ rel a ha => by
  obtain ⟨ho, hc⟩ := Fun.start hf hlen hr hw hΦ rel ha (R := wants (fun v s' => ∃ r, R r /\ (∀ b o, s.heap.get? b = some o -> s'.heap.get? b = some o) /\ s'.os = s.os /\ s'.gens = s.gens /\ DRel W.gl s'.heap Φ v r) (fun ζ ζ => False)) fun names sc S X Λ s₁ hb hk hrx hA hB hos hgn hPh hfr St => by
   refine wpAny_mono (t _ sc S hb X hk hrx (hB ▸ hw) _ _ _ St) (fun fl s' h => ?_) fun ζ ζ f => f.elim
   obtain ⟨out, ρ', σ', Λ', ad', S', P', fr, r, ho, hR⟩ := h
   refine ⟨r, hR, hB ▸ S'.keep, hos ▸ S'.os, hgn ▸ S'.gens, ?_⟩
   cases fr with
   | next => simp only [outD, Option.some.injEq] at ho; subst ho; exact .none
   | ret rv => exact hPh ▸ c9h S' rv ho
  exact ⟨ho, wpAny_call hc⟩
end
end Mine
end
section
open PySem PyProof.Rows PySem.SeqAt
namespace Mine
noncomputable def HasC (W : World0) (c : String) (i : Int) : Prop := valOf W.q (Str.ofString c) = some (.int i)
inductive ArgOk (σ : List O) : V -> V -> Prop
 | d (x : D) : ArgOk σ (.d x) (.d x)
 | a {v : V} {x : D} : a0h σ v = some x -> ArgOk σ v (.a x)
 | n {v : V} {x : D} : a0h σ v = some x -> nolist x = true -> ArgOk σ v (.d x)
inductive ArgsOk (σ : List O) : List V -> List V -> Prop
 | nil : ArgsOk σ [] []
 | cons {v w : V} {vs ws : List V} : ArgOk σ v w -> ArgsOk σ vs ws -> ArgsOk σ (v :: vs) (w :: ws)
inductive ArgOkN (σ : List O) : V -> V -> Prop
 | a {v : V} {x : D} : a0h σ v = some x -> ArgOkN σ v (.a x)
 | n {v : V} {x : D} : a0h σ v = some x -> nolist x = true -> ArgOkN σ v (.d x)
inductive ArgsOkN (σ : List O) : List V -> List V -> Prop
 | nil : ArgsOkN σ [] []
 | cons {v w : V} {vs ws : List V} : ArgOkN σ v w -> ArgsOkN σ vs ws -> ArgsOkN σ (v :: vs) (w :: ws)
section
variable {W : World0} {k : Nat} {A : Around} {s s' : Shared} {F : Addr -> Prop}
variable {X : Cx} {names : List Str} {ρ : List (Option V)} {σ : List O} {Λ : Addr -> Prop} {ad : List Addr}
theorem a8a (hk : KindsOk X.env sc) (hw : W.ok X.hB) (S : St W.gl X names ρ σ Λ ad s) {f : String} {x : Str} {pos : Pos} {v : Value} (hx : a1i sc f x = true) (hv : W.gl (Str.ofString f) = some v) {Q E : Value -> Shared -> Prop} (q : Q v s) :
  wpAny (model W.p W.w) X.A (eval (.Name x pos) X.env) Q E s := by
 unfold a1i at hx
 simp only [Bool.and_eq_true, beq_iff_eq, Bool.not_eq_true'] at hx
 obtain ⟨⟨rfl, h2⟩, h3⟩ := hx
 have T := W.keeps hw S.keep
 exact Calls.Name_function_global hk.kind (hk.glo _ h2) (Calls.loadGlobal_global (by erw [hk.glob]; exact T.g) hv q) h3
theorem TE.gc {c : String} {i : Int} {Q : V -> List O -> Prop} (hc : HasC W c i) (q : Q (.d (.int i)) σ) : TE W k (.gv c) ρ σ Q := fun names sc E he X hk hr hw Λ ad s S => by
 replace he := c7j he; obtain ⟨_, _, rfl, he⟩ := he
 ·refine xEA (hw.const _ _ hc) fun v hv rd => ?_
  refine a8a hk hw S he hv ?_
  refine xEA (reads_int_inv (rd s.heap)) fun t e ζ => ?_
  subst e
  exact Post.here (t := s.toks) S (.d (.int _ _)) q
theorem TE.gf {f : String} {cf : CF} {Q : V -> List O -> Prop} (hf : HasF W f cf) (q : Q (.d (.fn f)) σ) : TE W k (.gv f) ρ σ Q := fun names sc E he X hk hr hw Λ ad s S => by
 replace he := c7j he; obtain ⟨_, _, rfl, he⟩ := he
 ·obtain ⟨d, hd, hn, _⟩ := hf
  refine c8b (hw.fn d hd) fun a o pm code doc hg ζ => ?_
  have hg' : W.gl (Str.ofString f) = some (.ref a) := hn ▸ hg
  exact a8a hk hw S he hg' (Post.here (t := s.toks) S (.d (.fn hg')) q)
theorem c9i (S : St W.gl X names ρ σ Λ ad s) {v : Value} {val w : V} (r : VRel W.gl s.heap Λ X.Φ ad v val) (h : ArgOk σ val w) : VRel W.gl s.heap noL (Un Λ X.Φ) [] v w := by
 cases h with
 | d x => exact .d (r.dInv.keep (.weak fun ζ h => h.elim (fun f => f.elim) id))
 | a e => exact .a (a0z S r e)
 | n e n => exact .d ((a0z S r e).nolist n)
theorem b6q (S : St W.gl X names ρ σ Λ ad s) {vs : List Value} {vals ws : List V} (r : VRels W.gl s.heap Λ X.Φ ad vs vals) (h : ArgsOk σ vals ws) : VRels W.gl s.heap noL (Un Λ X.Φ) [] vs ws := by
 induction h generalizing vs with
 | nil => cases r; exact .nil
 | cons c _ ih => cases r with | cons a b => exact .cons (c9i S a c) (ih b)
theorem c5f (S : St W.gl X names ρ σ Λ ad s) {v : Value} {val w : V} (r : VRel W.gl s.heap Λ X.Φ ad v val) (h : ArgOkN σ val w) : VRel W.gl s.heap noL (used s) [] v w := by
 cases h with
 | a e => exact .a (a0z S r e)
 | n e n => exact .d ((a0z S r e).nolist n)
theorem c0v (S : St W.gl X names ρ σ Λ ad s) {vs : List Value} {vals ws : List V} (r : VRels W.gl s.heap Λ X.Φ ad vs vals) (h : ArgsOkN σ vals ws) : VRels W.gl s.heap noL (used s) [] vs ws := by
 induction h generalizing vs with
 | nil => cases r; exact .nil
 | cons c _ ih => cases r with | cons a b => exact .cons (c5f S a c) (ih b)
theorem b6r {f : String} {es : List CE} {sc : Scope} {x : Str} {px pos : Pos} {args : List Expr} {cf : CF} {Q : List V -> List O -> Prop} {QQ EE : Value -> Shared -> Prop} (hf : HasF W f cf) (hne : es ≠ [])
  (hx : a1i sc f x = true) (he : isEs names sc es args = true) (hk : KindsOk X.env sc) (hr : Room X.A k) (hw : W.ok X.hB) (S : St W.gl X names ρ σ Λ ad s) (t : TEs W k es ρ σ Q)
  (h : ∀ a vs s₁ vals σ1 Λ1 ad1, W.gl (Str.ofString f) = some (.ref a) -> St W.gl X names ρ σ1 Λ1 ad1 s₁ -> Step (a1d X.env) σ ad Λ s.heap σ1 ad1 Λ1 s₁.heap -> VRels W.gl s₁.heap Λ1 X.Φ ad1 vs vals -> Q vals σ1 ->
   wpAny (model W.p W.w) X.A (call (.ref a) vs) QQ EE s₁) :
  wpAny (model W.p W.w) X.A (eval (.Call (.Name x px) args [] pos) X.env) QQ EE s := by
 obtain ⟨d, hd, hn, _⟩ := hf
 refine a4y (hw.fn d hd) fun a o pm code doc hg ho hdat ζ => ?_
 have hg' : W.gl (Str.ofString f) = some (.ref a) := hn ▸ hg
 refine Call_ (a8a hk hw S hx hg' ?_)
 cases es with
 | nil => exact absurd rfl hne
 | cons e es =>
  have he' := he
  first | (replace he' := a0i he'; obtain ⟨y, ys, rfl, he'⟩ := he') | (replace he' := a0n he'; obtain ⟨rfl, he'⟩ := he')
  ·skip
   simp only [Bool.and_eq_true] at he'
   refine callWith_def (o := o) hdat (wpAny_mono (t.run he hk hr hw S pos) (fun vs s₁ h₁ => ?_) fun ζ ζ f => f.elim) (a0v he'.1 _ _)
   obtain ⟨vals, σ1, Λ1, ad1, S1, P1, r₁, q⟩ := h₁
   exact ⟨S1.keep a o ho, h a vs s₁ vals σ1 Λ1 ad1 hg' S1 P1 r₁ q⟩
inductive CallQ (W : World0) (k : Nat) (f : String) (vals : List V) (σ : List O) (Q : V -> List O -> Prop) : Prop
 | mk (args : List V) (R : D -> Prop) (h1 : ArgsOk σ vals args) (h2 : Fun W k f args R) (h3 : ∀ r, R r -> Q (.d r) σ) : CallQ W k f vals σ Q
theorem TE.call {f : String} {cf : CF} {es : List CE} {Q : V -> List O -> Prop} (hf : HasF W f cf) (hne : es ≠ []) (t : TEs W k es ρ σ fun vals σ' => CallQ W k f vals σ' Q) : TE W k (.call f es) ρ σ Q :=
 fun names sc E he X hk hr hw Λ ad s S => by
  replace he := b6n he; obtain ⟨_, _, _, _, rfl, he⟩ := he
  ·simp only [Bool.and_eq_true] at he
   refine b6r hf hne he.1.1 he.1.2 hk hr hw S t fun a vs s₁ vals σ1 Λ1 ad1 hg S1 P1 r₁ q => ?_
   obtain ⟨args, R, ha, F, q⟩ := q
   refine wpAny_mono (F X.A s₁ vs (Un Λ1 X.Φ) hr (W.keeps hw S1.keep) S1.usedF (b6q S1 r₁ ha) a hg).2 (fun v s₂ h₂ => ?_) fun ζ ζ f => f
   refine b9j h₂ fun r hR kp ho hgn dr => ?_
   exact Post.trans P1 (Post.pure S1 (.of_keeps kp ho hgn) (.d dr) (q r hR))
theorem TE.callv {i : Nat} {f : String} {cf : CF} {es : List CE} {Q : V -> List O -> Prop} (hf : HasF W f cf) (hne : es ≠ []) (hi : ρ[i]? = some (some (.d (.fn f))) ∨ ρ[i]? = some (some (.a (.fn f))))
  (t : TEs W k es ρ σ fun vals σ' => CallQ W k f vals σ' Q) : TE W k (.callv i es) ρ σ Q :=
 fun names sc E he X hk hr hw Λ ad s S => by
  replace he := c0f he; obtain ⟨x, px, args, pos, rfl, he⟩ := he
  ·skip
   simp only [Bool.and_eq_true] at he
   obtain ⟨d, hd, hn, _⟩ := hf
   refine a4y (hw.fn d hd) fun a o pm code doc hg ho hdat ζ => ?_
   have hg' : W.gl (Str.ofString f) = some (.ref a) := hn ▸ hg
   have hvar := he.1.1
   simp only [b2j, Bool.and_eq_true, Bool.not_eq_true', beq_iff_eq] at hvar
   obtain ⟨⟨⟨h1, h2⟩, h3⟩, h4⟩ := hvar
   have key : ∀ val, (val = .d (.fn f) ∨ val = .a (.fn f)) -> ρ[i]? = some (some val) -> wpAny (model W.p W.w) X.A (eval (.Call (.Name x px) args [] pos) X.env) (Post W.gl X names ρ σ Λ ad s Q) (fun ζ ζ => False) s := fun val hval hi => by
    refine Call_ (wpAny_Name (S.load hk h1 h2 hi h4 fun v r => ?_) h3)
    have hv : v = .ref a := by
     rcases hval with rfl | rfl
     ·have d := r.dInv
      cases d with
      | fn e => rw [hg'] at e; cases e; rfl
     ·cases r with
      | a d => cases d with
       | fn e => rw [hg'] at e; cases e; rfl
    subst hv
    cases es with
    | nil => exact absurd rfl hne
    | cons e es =>
     have he' := he.1.2
     first | (replace he' := a0i he'; obtain ⟨y, ys, rfl, he'⟩ := he') | (replace he' := a0n he'; obtain ⟨rfl, he'⟩ := he')
     ·skip
      simp only [Bool.and_eq_true] at he'
      refine callWith_def (o := o) hdat (wpAny_mono (t.run he.1.2 hk hr hw S pos) (fun vs s₁ h₁ => ?_) fun ζ ζ f => f) (a0v he'.1 _ _)
      obtain ⟨vals, σ1, Λ1, ad1, S1, P1, r₁, args, R, ha, F, q⟩ := h₁
      refine ⟨S1.keep a o ho, wpAny_mono (F X.A s₁ vs (Un Λ1 X.Φ) hr (W.keeps hw S1.keep) S1.usedF (b6q S1 r₁ ha) a hg').2 (fun v s₂ h₂ => ?_) fun ζ ζ f => f⟩
      refine b9j h₂ fun r hR kp ho hgn dr => ?_
      exact Post.trans P1 (Post.pure S1 (.of_keeps kp ho hgn) (.d dr) (q r hR))
   rcases hi with hi | hi
   ·exact key _ (.inl rfl) hi
   ·exact key _ (.inr rfl) hi
end
end Mine
end
section
open PySem PyProof.Rows PySem.SeqAt
namespace Mine
noncomputable def thn (W : World0) (k : Nat) (ss : List CS) (Q : Out -> List (Option V) -> List O -> Prop) : Out -> List (Option V) -> List O -> Prop
 | .next, ρ, σ => TS W k ss ρ σ Q
 | .ret v, ρ, σ => Q (.ret v) ρ σ
noncomputable def TS1 (W : World0) (k : Nat) (c : CS) (ρ : List (Option V)) (σ : List O) (Q : Out -> List (Option V) -> List O -> Prop) : Prop :=
 ∀ names sc S, isS names sc c S = true -> ∀ X : Cx, KindsOk X.env sc -> Room X.A k -> W.ok X.hB -> ∀ Λ ad s, St W.gl X names ρ σ Λ ad s ->
  wpAny (model W.p W.w) X.A (exec S X.env) (PostS W.gl X names σ Λ ad s Q) (fun ζ ζ => False) s
section
variable {W : World0} {k : Nat} {A : Around} {s s' s'' : Shared} {F : Addr -> Prop} {sc : Scope}
variable {gl : Str -> Option Value} {X : Cx} {names : List Str} {ρ ρ' : List (Option V)} {σ σ' σ'' : List O} {Λ Λ' : Addr -> Prop} {ad ad' : List Addr} {Q : Out -> List (Option V) -> List O -> Prop}
theorem PostS.trans {f : Flow} (P : Step (a2e X.env) σ ad Λ s.heap σ' ad' Λ' s'.heap) (x : PostS gl X names σ' Λ' ad' s' Q f s'') : PostS gl X names σ Λ ad s Q f s'' := by
 obtain ⟨out, ρ2, σ2, Λ2, ad2, S2, P2, r, q⟩ := x
 exact ⟨out, ρ2, σ2, Λ2, ad2, S2, P.trans P2, r, q⟩
theorem TS.nil (q : Q .next ρ σ) : TS W k [] ρ σ Q := fun names sc S he X hk hr hw Λ ad s St => by
 first | (replace he := b2q he; obtain ⟨_, _, rfl, he⟩ := he) | (replace he := b6o he; obtain ⟨rfl, he⟩ := he)
 ·exact wpAny_execs_nil ⟨.next, ρ, σ, Λ, ad, St, .refl, .next, q⟩
set_option tactic.hygienic true in
theorem TS.cons {c : CS} {ss : List CS} (t : TS1 W k c ρ σ (thn W k ss Q)) : TS W k (c :: ss) ρ σ Q := fun names sc S he X hk hr hw Λ ad s St => by
 first | (replace he := b2q he; obtain ⟨_, _, rfl, he⟩ := he) | (replace he := b6o he; obtain ⟨rfl, he⟩ := he)
 ·rename_i x xs
  simp only [Bool.and_eq_true] at he
  refine wpAny_execs_cons (wpAny_mono (t names sc x he.1 X hk hr hw Λ ad s St) (fun f s₁ h₁ => ?_) fun ζ ζ f => f)
  obtain ⟨out, ρ1, σ1, Λ1, ad1, S1, P1, fr, q⟩ := h₁
  cases fr with
  | next => exact wpAny_mono (q names sc xs he.2 X hk hr hw Λ1 ad1 s₁ S1) (fun f s₂ h₂ => h₂.trans P1) fun ζ ζ f => f
  | ret r => exact ⟨_, ρ1, σ1, Λ1, ad1, S1, P1, .ret r, q⟩
theorem TS.mono {ss : List CS} {Q' : Out -> List (Option V) -> List O -> Prop} (t : TS W k ss ρ σ Q) (h : ∀ o a b, Q o a b -> Q' o a b) : TS W k ss ρ σ Q' :=
 fun names sc E he X hk hr hw Λ ad s S => wpAny_mono (t names sc E he X hk hr hw Λ ad s S) (fun v s' ⟨a, b, c, d, e, f, g, i, j⟩ => ⟨a, b, c, d, e, f, g, i, h _ _ _ j⟩) fun ζ ζ f => f
noncomputable def a1x (sc : Scope) (env : Env) (a : Addr) : Prop := a = env.locals ∨ ∃ x, sc.names.lookup x = some .cell /\ env.cells.lookup x = some a
theorem b6s {env : Env} {a : Addr} (h : a1x sc env a) : a2e env a := h.elim .inl fun ⟨x, _, h⟩ => .inr ⟨x, h⟩
theorem Step.ownS {h h' : Heap} (P : Step (a1x sc X.env) σ ad Λ h σ' ad' Λ' h') : Step (a2e X.env) σ ad Λ h σ' ad' Λ' h' := P.weak fun ζ h => b6s h
theorem St.own (S : St gl X names ρ σ Λ ad s) {z : Addr} (hze : a1x sc X.env z) (hb : X.hB.get? z = none) {h' : Heap} {t' : Nat} {m' cm' : Str -> Option Value} (hrl : ρ'.length = ρ.length)
  (hsame : ∀ b, b ≠ z -> h'.get? b = s.heap.get? b) (hex : ∃ o, h'.get? z = some o) (hn' : h'.Ns X.env.locals m') (hc' : ∀ n c, X.env.cells.lookup n = some c -> h'.IsCell c (cm' n))
  (hv' : ∀ (y : Str) (j : Nat) (u : V), vis names y = some j -> ρ'[j]? = some (some u) ->
    (X.env.kindOf y = some .local -> ∃ w, m' y = some w /\ VRel gl s.heap Λ X.Φ ad w u) /\
    (X.env.kindOf y = some .cell ∨ X.env.kindOf y = some .free -> ∃ c w, X.env.cells.lookup y = some c /\ cm' y = some w /\ VRel gl s.heap Λ X.Φ ad w u)) :
  St gl X names ρ' σ Λ ad { s with heap := h', toks := t' } /\ Step (a1x sc X.env) σ ad Λ s.heap σ ad Λ h' := by
 have hz := b6s hze
 have hdom : ∀ b o, s.heap.get? b = some o -> ∃ o', h'.get? b = some o' := fun b o e => by
  by_cases h : b = z
  ·subst h; exact hex
  ·erw [hsame b h]; exact ⟨o, e⟩
 have P : Step (a1x sc X.env) σ ad Λ s.heap σ ad Λ h' := ⟨fun a o ζ ne e => by erw [hsame a fun h => ne (h ▸ hze)]; exact e, hdom, fun ζ l => .inl l, fun ζ ζ e => e, fun ζ l => .inl l, fun ζ l => .inl l, fun ζ ζ ζ l ζ => l⟩
 have K := P.ownS.keepS S
 refine ⟨⟨fun b o e => ?_, S.os, S.gens, S.new, fun a l => ?_, S.phi, S.nd, S.len, fun a ha => ?_, fun j a o e1 e2 e3 => ?_, S.locL, S.locA, S.cellN, hrl.trans S.rl, m', cm', hn', hc', fun y j u h1 h2 => ?_⟩, P⟩
 ·show h'.get? b = some o
  rw [hsame b fun h => by subst h; exact dGN hb e]; exact S.keep b o e
 ·obtain ⟨o, e⟩ := S.lt a l; exact hdom a o e
 ·obtain ⟨o, e⟩ := S.adl a ha; exact hdom a o e
 ·obtain ⟨h1, h2⟩ := S.objs j a o e1 e2 e3
  refine ⟨h1, h2.keep K (fun ζ ζ e => e) fun ob e => ?_⟩
  show h'.get? a = some ob
  rw [hsame a fun h => ?_]
  ·exact e
  ·subst h
   rcases hz with rfl | ⟨y, hy⟩
   ·exact S.locA (a0g e1)
   ·refine a0u S.vars fun m cm ζ hc ζ => ?_
    obtain ⟨ob', e', d'⟩ := hc y a hy
    cases o with
    | lst l => obtain ⟨vs, n, e2, _⟩ := h2; rw [e'] at e2; cases e2; cases d'
    | dI l => obtain ⟨vs, n, e2, _⟩ := h2; rw [e'] at e2; cases e2; cases d'
    | dT l => obtain ⟨vs, n, e2, _⟩ := h2; rw [e'] at e2; cases e2; cases d'
    | lstV l => obtain ⟨vs, n, e2, _⟩ := h2; rw [e'] at e2; cases e2; cases d'
    | dead => exact e3 rfl
 ·refine xA (hv' y j u h1 h2) fun a1 a2 => ?_
  refine ⟨fun h => ?_, fun h => ?_⟩
  ·refine xEA (a1 h) fun w e1 r1 => ?_; exact ⟨w, e1, r1.keep K fun ζ ζ e => e⟩
  ·refine a0u (a2 h) fun c w e0 e1 r1 => ?_; exact ⟨c, w, e0, e1, r1.keep K fun ζ ζ e => e⟩
theorem St.loc_base (S : St gl X names ρ σ Λ ad s) : X.hB.get? X.env.locals = none := S.new _ S.locL
theorem set_var {x y : Str} {i j : Nat} {val u : V} (hv : vis names x = some i) (h1 : vis names y = some j) (h2 : (ρ.set i (some val))[j]? = some (some u)) : (y = x /\ u = val) ∨ (y ≠ x /\ ρ[j]? = some (some u)) := by
 rcases set_get h2 with ⟨rfl, h⟩ | ⟨h, h'⟩
 ·exact .inl ⟨a0l ((a7z h1).symm.trans (a7z hv)), a0l h⟩
 ·exact .inr ⟨fun q => h (a0l ((q ▸ h1).symm.trans hv)), h'⟩
theorem St.store (S : St gl X names ρ σ Λ ad s) (hk : KindsOk X.env sc) {i : Nat} {x : Str} (hs : a1l names sc i x = true) {v : Value} {val : V} (r : VRel gl s.heap Λ X.Φ ad v val)
  {M : Model} {A : Around} {Q : Unit -> Shared -> Prop} {E : Value -> Shared -> Prop}
  (q : ∀ s', St gl X names (ρ.set i (some val)) σ Λ ad s' -> Step (a1x sc X.env) σ ad Λ s.heap σ ad Λ s'.heap -> Q () s') : wpAny M A (storeName X.env x v) Q E s := by
 unfold a1l at hs
 simp only [Bool.and_eq_true, Bool.or_eq_true, beq_iff_eq] at hs
 obtain ⟨hkd, hv⟩ := hs
 refine a0u S.vars fun m cm hn hc hvars => ?_
 rcases hkd with hl | hl
 ·have hl' := hk.loc x hl
  refine wpAny_storeName_local hl' hn (fun h' hn' hs' => ?_) (by erw [hk.kind]; rfl)
  have hex : ∃ o, h'.get? X.env.locals = some o := let ⟨o, _, _, e, _⟩ := hn'; ⟨o, e⟩
  obtain ⟨S', P'⟩ := S.own (ρ' := ρ.set i (some val)) (t' := s.toks + 1) (sc := sc) (.inl rfl) S.loc_base (by simp) hs'.2 hex hn' (cm' := cm) (fun n c e => (hc n c e).sameBut hs' (a2j (hc n c e) hn)) (fun y j u h1 h2 => by
   rcases set_var hv h1 h2 with ⟨rfl, rfl⟩ | ⟨hy, h⟩
   ·refine ⟨fun ζ => ⟨v, if_pos rfl, r⟩, fun h => ?_⟩
    rw [hl'] at h; rcases h with h | h <;> cases h
   ·refine xA (hvars y j u h1 h) fun a1 a2 => ?_
    exact ⟨fun h => by refine xEA (a1 h) fun w e r' => ?_; exact ⟨w, by simp [hy, e], r'⟩, a2⟩)
  exact q _ S' P'
 ·have hl' := hk.celS x hl
  obtain ⟨c, hcx⟩ := hk.celE x (.inl hl')
  refine wpAny_storeName_cell hk.kind hl' hcx (hc x c hcx) fun h' hv' hs' => ?_
  have hex : ∃ o, h'.get? c = some o := let ⟨o, e, _⟩ := hv'; ⟨o, e⟩
  have hcl : c ≠ X.env.locals := a2j (hc x c hcx) hn
  obtain ⟨S', P'⟩ := S.own (ρ' := ρ.set i (some val)) (t' := s.toks) (.inr ⟨x, hl, hcx⟩) (S.cellN x c hl' hcx) (by simp) hs'.2 hex (hn.sameBut hs' (Ne.symm hcl)) (cm' := fun y => if y = x then some v else cm y) (fun n c' e => by
    by_cases hnx : n = x
    ·subst hnx; rw [hcx] at e; cases e; simpa using hv'
    ·simp only [hnx, if_false]
     exact (hc n c' e).sameBut hs' fun h => hnx (name_of_addr (hk.apart ⟨x, hl⟩) (mem_of_lookup e) (h ▸ mem_of_lookup hcx))) (fun y j u h1 h2 => by
   rcases set_var hv h1 h2 with ⟨rfl, rfl⟩ | ⟨hy, h⟩
   ·refine ⟨fun h => ?_, fun ζ => ⟨c, v, hcx, if_pos rfl, r⟩⟩
    rw [hl'] at h; cases h
   ·refine xA (hvars y j u h1 h) fun a1 a2 => ?_
    exact ⟨a1, fun h => by refine a0u (a2 h) fun c' w e0 e r' => ?_; exact ⟨c', w, e0, by simp [hy, e], r'⟩⟩)
  exact q _ S' P'
end
end Mine
end
section
open PySem PyProof.Rows PySem.SeqAt
namespace Mine
noncomputable def a2d (ρ : List (Option V)) : List Nat -> List V -> List (Option V)
 | i :: is, v :: vs => a2d (ρ.set i (some v)) is vs
 | _, _ => ρ
noncomputable def a2u (e : CE) : Bool := !Nat.beq (ixOf e) 8
noncomputable def b6t (e : CE) : Bool := !Nat.beq (ixOf e) 25 && !Nat.beq (ixOf e) 8
noncomputable def frz (j : Nat) (x : D) : Option V -> Option V
 | some (.r i) => if i = j then some (.d x) else some (.r i)
 | o => o
section
variable {W : World0} {k : Nat} {A : Around} {s s' s'' : Shared} {F : Addr -> Prop} {sc : Scope}
variable {gl : Str -> Option Value} {X : Cx} {names : List Str} {ρ ρ' : List (Option V)} {σ σ' σ'' : List O} {Λ Λ' : Addr -> Prop} {ad ad' : List Addr} {Q : Out -> List (Option V) -> List O -> Prop}
theorem a3b {e : CE} {E : Expr} (he : isE names sc e E = true) (hn : a2u e = true) (t : Option Expr) (l : Nat) (env : Env) : swapsWith E t l env = pure false := by
 cases E with
 | ListComp a b c d =>
  unfold a2u at hn
  rw [← c4x he] at hn
  exact ff hn
 | SetComp a b c d => exact b2r he rfl
 | DictComp a b c d e' => exact b2r he rfl
 | _ => rfl
theorem Post.toS {Q : Out -> List (Option V) -> List O -> Prop} {f : Flow} {v : Value} {Q' : V -> List O -> Prop} (p : Post gl X names ρ σ Λ ad s Q' v s') (h : ∀ val σ', Q' val σ' -> Q (.ret val) ρ σ') : PostS gl X names σ Λ ad s Q (.ret v) s' := by
 obtain ⟨val, σ1, Λ1, ad1, S1, P1, r, q⟩ := p
 exact ⟨_, ρ, σ1, Λ1, ad1, S1, P1.own, .ret r, h _ _ q⟩
theorem TS1.asg {i : Nat} {e : CE} (t : TE W k e ρ σ fun v σ' => Q .next (ρ.set i (some v)) σ') (hn : a2u e = true := by rfl) : TS1 W k (.asg i e) ρ σ Q := fun names sc S he X hk hr hw Λ ad s St => by
 replace he := c0i he; obtain ⟨_, _, _, _, rfl, he⟩ := he
 ·simp only [Bool.and_eq_true] at he
  refine wpAny_Assign_Name (wpAny_mono (t names sc _ he.2 X hk hr hw Λ ad s St) (fun v s₁ h₁ => ?_) fun ζ ζ f => f) (a3b he.2 hn _ _ _)
  obtain ⟨val, σ1, Λ1, ad1, S1, P1, r, q⟩ := h₁
  exact S1.store hk he.1 r fun s₂ S2 P2 => ⟨.next, _, _, _, _, S2, P1.own.trans P2.ownS, .next, q⟩
theorem TS1.ret {e : CE} (t : TE W k e ρ σ fun v σ' => Q (.ret v) ρ σ') : TS1 W k (.ret e) ρ σ Q := fun names sc S he X hk hr hw Λ ad s St => by
 replace he := c8y he; obtain ⟨_, _, rfl, he⟩ := he
 ·exact wpAny_Return_some (wpAny_mono (t names sc _ he X hk hr hw Λ ad s St) (fun v s₁ h₁ => h₁.toS (f := .ret v) fun ζ ζ q => q) fun ζ ζ f => f)
theorem TS1.ex {e : CE} (t : TE W k e ρ σ fun v σ' => Q .next ρ σ') (hn : a2u e = true := by rfl) : TS1 W k (.ex e) ρ σ Q := fun names sc S he X hk hr hw Λ ad s St => by
 replace he := inv_ex he; obtain ⟨_, _, rfl, he⟩ := he
 ·refine wpAny_Expr_any (wpAny_mono (t names sc _ he X hk hr hw Λ ad s St) (fun v s₁ h₁ => ?_) fun ζ ζ f => f) ?_ (a3b he hn _ _ _)
  ·obtain ⟨val, σ1, Λ1, ad1, S1, P1, r, q⟩ := h₁
   exact ⟨.next, ρ, _, _, _, S1, P1.own, .next, q⟩
  ·unfold interactive; erw [hk.kind]; rfl
theorem TS1.ite {c : CE} {a b : List CS} (t : TC W k c ρ σ fun v σ' => if v then TS W k a ρ σ' Q else TS W k b ρ σ' Q) : TS1 W k (.ite c a b) ρ σ Q := fun names sc S he X hk hr hw Λ ad s St => by
 replace he := inv_if he; obtain ⟨_, _, _, _, rfl, he⟩ := he
 ·simp only [Bool.and_eq_true] at he
  refine wpAny_If (wpAny_mono (t names sc _ he.1.1 X hk hr hw Λ ad s St) (fun v s₁ h₁ => ?_) fun ζ ζ f => f)
  obtain ⟨σ1, Λ1, ad1, S1, P1, q⟩ := h₁
  cases v with
  | true => exact wpAny_mono (q names sc _ he.1.2 X hk hr hw Λ1 ad1 s₁ S1) (fun f s₂ h₂ => h₂.trans P1.own) fun ζ ζ f => f
  | false => exact wpAny_mono (q names sc _ he.2 X hk hr hw Λ1 ad1 s₁ S1) (fun f s₂ h₂ => h₂.trans P1.own) fun ζ ζ f => f
theorem TS1.while {c : CE} {b : List CS} (Inv : Nat -> List (Option V) -> List O -> Prop) (n₀ : Nat) (h0 : Inv n₀ ρ σ)
  (turn : ∀ n ρ1 σ1, Inv n ρ1 σ1 -> TC W k c ρ1 σ1 fun v σ2 => if v then TS W k b ρ1 σ2 (fun out ρ3 σ3 => match out with | .next => ∃ m, m < n /\ Inv m ρ3 σ3 | .ret x => Q (.ret x) ρ3 σ3) else Q .next ρ1 σ2) :
  TS1 W k (.while c b) ρ σ Q := fun names sc S he X hk hr hw Λ ad s St' => by
 replace he := c0j he; obtain ⟨ce, bd, pos, rfl, he⟩ := he
 ·skip
  simp only [Bool.and_eq_true] at he
  refine wpAny_While (codeAny_whileLoop (fun n s' => ∃ ρ1 σ1 Λ1 ad1, St W.gl X names ρ1 σ1 Λ1 ad1 s' /\ Step (a2e X.env) σ ad Λ s.heap σ1 ad1 Λ1 s'.heap /\ Inv n ρ1 σ1) ?_ n₀ ⟨ρ, σ, Λ, ad, St', .refl, h0⟩)
  rintro n s' ⟨ρ1, σ1, Λ1, ad1, S1, P1, hI⟩
  refine wpAny_mono (turn n ρ1 σ1 hI names sc _ he.1 X hk hr hw Λ1 ad1 s' S1) (fun v s₂ h₂ => ?_) fun ζ ζ f => f.elim
  obtain ⟨σ2, Λ2, ad2, S2, P2, q⟩ := h₂
  cases v with
  | false =>
   simp only [Bool.false_eq_true, if_false] at q ⊢
   exact wpAny_execs_nil ⟨.next, ρ1, σ2, Λ2, ad2, S2, P1.trans P2.own, .next, q⟩
  | true =>
   simp only [if_true] at q ⊢
   refine wpAny_mono (q names sc _ he.2 X hk hr hw Λ2 ad2 s₂ S2) (fun f s₃ h₃ => ?_) fun ζ ζ f => f.elim
   obtain ⟨out, ρ3, σ3, Λ3, ad3, S3, P3, fr, q⟩ := h₃
   have P := (P1.trans P2.own).trans P3
   cases fr with
   | next => obtain ⟨m, hm, hI⟩ := q; exact ⟨m, hm, ρ3, σ3, Λ3, ad3, S3, P, hI⟩
   | ret r => exact ⟨_, ρ3, σ3, Λ3, ad3, S3, P, .ret r, q⟩
theorem TS.freeze {ss : List CS} {j : Nat} {l : List D} (hj : σ[j]? = some (.lst l)) (t : TS W k ss (ρ.map (frz j (.lst l))) (σ.set j .dead) Q) : TS W k ss ρ σ Q := fun names sc S he X hk hr hw Λ ad s St' => by
 have hlt : j < ad.length := by erw [St'.len]; exact (List.getElem?_eq_some_iff.mp hj).1
 obtain ⟨a, ea⟩ : ∃ a, ad[j]? = some a := ⟨ad[j], List.getElem?_eq_getElem hlt⟩
 obtain ⟨hΛ, vs, n, h1, h2⟩ := St'.objs j a _ ea hj (by intro h; cases h)
 have K : Keep Λ (fun b => Λ b /\ b ≠ a) s.heap s.heap := .weak fun b h => h.1
 have hL : X.env.locals ≠ a := fun h => St'.locA (h ▸ a0g ea)
 have S1 : St W.gl X names (ρ.map (frz j (.lst l))) (σ.set j .dead) (fun b => Λ b /\ b ≠ a) ad s := by
  refine ⟨St'.keep, St'.os, St'.gens, fun b h => St'.new b h.1, fun b h => St'.lt b h.1, St'.phi, St'.nd, by simp [St'.len], St'.adl, fun i b o e1 e2 e3 => ?_, ⟨St'.locL, hL⟩, St'.locA, St'.cellN, by simp [St'.rl], ?_⟩
  ·rcases set_get e2 with ⟨rfl, rfl⟩ | ⟨hne, e2'⟩
   ·exact absurd rfl e3
   ·obtain ⟨g1, g2⟩ := St'.objs i b o e1 e2' e3
    exact ⟨⟨g1, fun h => hne (b2w St'.nd e1 (h ▸ ea))⟩, g2.keep K (fun ζ ζ e => e) fun ζ e => e⟩
  ·refine a0u St'.vars fun m cm hn hc hv => ?_
   have conv : ∀ {v : Value} {o : Option V} {u : V}, frz j (.lst l) o = some u -> (∀ u0, o = some u0 -> VRel W.gl s.heap Λ X.Φ ad v u0) -> VRel W.gl s.heap (fun b => Λ b /\ b ≠ a) X.Φ ad v u := fun {v o u} hf hr => by
    cases o with
    | none => exact dNS hf
    | some u0 =>
     have r := hr u0 rfl
     cases u0 with
     | r i =>
      rcases ite_or (c := i = j) hf with ⟨rfl, hg⟩ | ⟨_, hg⟩
      ·obtain rfl := a0l hg
       cases r with
       | r e =>
        rw [ea] at e; cases e
        exact .d (.lst h1 (fun h => h.elim (fun h => h.2 rfl) (St'.new_phi hΛ)) (h2.keep K.un))
      ·exact a0l hg ▸ r.keep K fun ζ ζ e => e
     | d x => exact a0l hf ▸ r.keep K fun ζ ζ e => e
     | a x => exact a0l hf ▸ r.keep K fun ζ ζ e => e
     | t x => exact a0l hf ▸ r.keep K fun ζ ζ e => e
   refine ⟨m, cm, hn, hc, fun x i val e1 e2 => ?_⟩
   rw [List.getElem?_map] at e2
   cases e0 : ρ[i]? with
   | none => rw [e0] at e2; exact dNS e2
   | some o =>
    rw [e0] at e2
    simp only [Option.map_some, Option.some.injEq] at e2
    have he0 : ∃ u0, o = some u0 := by
     cases o with
     | none => exact dNS e2
     | some u => exact ⟨u, rfl⟩
    obtain ⟨u0, rfl⟩ := he0
    refine xA (hv x i u0 e1 e0) fun a1 a2 => ?_
    refine ⟨fun h => ?_, fun h => ?_⟩
    ·refine xEA (a1 h) fun v g1 g2 => ?_
     exact ⟨v, g1, conv e2 fun u hu => by cases hu; exact g2⟩
    ·refine a0u (a2 h) fun c v g0 g1 g2 => ?_
     exact ⟨c, v, g0, g1, conv e2 fun u hu => by cases hu; exact g2⟩
 have P1 : Step (a2e X.env) σ ad Λ s.heap (σ.set j .dead) ad (fun b => Λ b /\ b ≠ a) s.heap := ⟨fun ζ ζ ζ ζ e => e, fun ζ o e => ⟨o, e⟩, fun ζ l => .inl l.1, fun ζ ζ e => e, fun b l => by
  obtain ⟨i, o, e1, e2, e3⟩ := l
  rcases set_get e2 with ⟨rfl, rfl⟩ | ⟨hne, e2'⟩
  ·exact absurd rfl e3
  ·exact .inl ⟨i, o, e1, e2', e3⟩, fun ζ l => .inl l, fun b ζ ζ l nl => ⟨l, fun h => nl ⟨j, _, h ▸ ea, hj, by intro h; cases h⟩⟩⟩
 exact wpAny_mono (t names sc S he X hk hr hw _ ad s S1) (fun f s₂ h₂ => h₂.trans P1) fun ζ ζ f => f
theorem a4j {i : Nat} {is : List Nat} {ts : List Expr} (h : a0s names sc (i :: is) ts = true) : ∃ x px ts', ts = .Name x px :: ts' /\ a1l names sc i x = true /\ a0s names sc is ts' = true := by
 apply a1b h; intro t ts h
 apply a2g h; intro x px h
 exact ⟨x, px, ts, rfl, (Bool.and_eq_true_iff.mp h).1, (Bool.and_eq_true_iff.mp h).2⟩
theorem a5h {ts : List Expr} (h : a0s names sc [] ts = true) : ts = [] := by
 cases ts with
 | nil => rfl
 | cons _ _ => exact ff h
set_option tactic.hygienic true in
theorem St.stores (hk : KindsOk X.env sc) {M : Model} {A : Around} {E : Value -> Shared -> Prop} {is : List Nat} : ∀ {ts : List Expr} {vs : List Value} {vals : List V} {ρ : List (Option V)} {s : Shared} {QQ : Unit -> Shared -> Prop}, St gl X names ρ σ Λ ad s ->
  a0s names sc is ts = true -> VRels gl s.heap Λ X.Φ ad vs vals -> vs.length = ts.length ->
  (∀ s', St gl X names (a2d ρ is vals) σ Λ ad s' -> Step (a1x sc X.env) σ ad Λ s.heap σ ad Λ s'.heap -> QQ () s') -> wpAny M A (assignInOrder ((assignEach ts X.env).map (·.2)) vs) QQ E s := by
 induction is with
 | nil =>
  intro ts vs vals ρ s QQ S ht r hl q
  have := a5h ht
  subst this
  have : vs = [] := List.length_eq_zero_iff.mp hl
  subst this
  cases r
  exact wpAny_pure (q s S .refl)
 | cons i is ih =>
  intro ts vs vals ρ s QQ S ht r hl q
  obtain ⟨x, px, ts', rfl, h1, h2⟩ := a4j ht
  cases r with
  | nil => simp at hl
  | cons rv rs =>
   rename_i v val vs vals
   show wpAny M A (do holding vs (assign (.Name x px) X.env v); assignInOrder ((assignEach ts' X.env).map (·.2)) vs) QQ E s
   refine wpAny_bind (wpAny_holding (wpAny_assign_Name (S.store hk h1 rv fun s₁ S1 P1 => ?_)))
   exact ih S1 h2 (rs.keep (P1.ownS.keepS S) fun ζ ζ e => e) (by simpa using hl) fun s₂ S2 P2 => q s₂ S2 (P1.trans P2)
theorem b2z {env : Env} {is : List Nat} : ∀ {ts : List Expr}, a0s names sc is ts = true -> (assignEach ts env).length = ts.length /\ (assignEach ts env).findIdx? (·.1) = none /\ ts.length = is.length := by
 induction is with
 | nil => intro ts ht; have := a5h ht; subst this; exact ⟨rfl, rfl, rfl⟩
 | cons i is ih =>
  intro ts ht
  obtain ⟨x, px, ts', rfl, h1, h2⟩ := a4j ht
  refine xAA (ih h2) fun g1 g2 g3 => ?_
  refine ⟨?_, ?_, by simp [g3]⟩
  ·show (assignEach ts' env).length + 1 = _; erw [g1]; rfl
  ·show List.findIdx? _ ((false, assign (.Name x px) env) :: assignEach ts' env) = none
   erw [List.findIdx?_cons]; simp [g2]
theorem c5g {L : Addr} {h' : Heap} (h : Heap.ExtBut s.heap.objs.size s.heap h') : Kept L s { s with heap := h' } :=
 .of_keeps (fun a o e => h a o (Nat.ne_of_lt (Heap.lt_size e)) e) rfl rfl
theorem St.unpack (S : St W.gl X names ρ σ Λ ad s) (hk : KindsOk X.env sc) (hr : Room X.A k) {is : List Nat} {ts : List Expr} {kk pos} (ht : a0s names sc is ts = true) {v : Value} {val : V} {l : List V} (r : VRel W.gl s.heap Λ X.Φ ad v val) (e : seqV σ val = some (false, l)) (hl : l.length = is.length)
  {QQ : Unit -> Shared -> Prop} {E : Value -> Shared -> Prop} (q : ∀ s', St W.gl X names (a2d ρ is l) σ Λ ad s' -> Step (a1x sc X.env) σ ad Λ s.heap σ ad Λ s'.heap -> QQ () s') : wpAny (model W.p W.w) X.A (assign (.Tuple ts kk pos) X.env v) QQ E s := by
 obtain ⟨a, vs, n, rfl, h1, h2⟩ := b4y S r e
 refine xAA (b2z (env := X.env) ht) fun t1 t2 t3 => ?_
 have h1' : s.heap.get? a = some (TO vs n) := h1
 refine wpAny_assign_Tuple hr.1 (a0c h1') (by erw [t1, List.size_toArray, h2.length, hl, t3]) t2 fun h' he => ?_
 have kk := c5g (L := X.env.locals) he
 have P0 := Step.of_kept S kk
 refine St.stores hk (S.kept kk) ht (h2.step S P0) (by erw [h2.length, hl, t3]) fun s' S' P' => q s' S' ((P0.weak fun ζ h => .inl h).trans P')
theorem TS1.asgT {is : List Nat} {e : CE} (t : TE W k e ρ σ fun v σ' => ∃ l, seqV σ' v = some (false, l) /\ l.length = is.length /\ Q .next (a2d ρ is l) σ') (hn : b6t e = true := by rfl) : TS1 W k (.asgT is e) ρ σ Q := fun names sc S he X hk hr hw Λ ad s St => by
 replace he := c4t he; obtain ⟨ts, kk, pos', v, pos, rfl, he⟩ := he
 ·skip
  simp only [Bool.and_eq_true] at he
  refine Assign_Tuple (wpAny_mono (t names sc _ he.1.2 X hk hr hw Λ ad s St) (fun v s₁ h₁ => ?_) fun ζ ζ f => f) (by show swapsWith v (some (.Tuple ts kk pos')) pos.line X.env = pure false; exact a3b he.1.2 (Bool.and_eq_true_iff.mp hn).2 _ _ _) ?_
  ·obtain ⟨val, σ1, Λ1, ad1, S1, P1, r, l, e, hl, q⟩ := h₁
   exact S1.unpack hk hr he.1.1 r e hl fun s₂ S2 P2 => ⟨.next, _, _, _, _, S2, P1.own.trans P2.ownS, .next, q⟩
  ·have hE := he.1.2
   cases v with
   | Tuple a b c =>
    unfold b6t at hn
    rw [← c4x hE] at hn
    exact ff hn
   | _ => rfl
end
end Mine
end
section
open PySem PyProof.Rows PySem.SeqAt
namespace Mine
noncomputable def a3c (n : String) : Prop := (["enumerate", "zip", "dict_itemiterator", "dict_reverseitemiterator", "odict_iterator", "itertools.zip_longest", "itertools.pairwise"].contains n) = false
noncomputable def isIter (h : Heap) (I : Addr) : Prop := ∃ o vs n, h.get? I = some o /\ o.cls = .type n /\ o.data = .fields vs /\ a3c n
theorem c9j : a3c "list_iterator" := by unfold a3c; decide
theorem c5h : a3c "tuple_iterator" := by unfold a3c; decide
theorem c5i : a3c "range_iterator" := by unfold a3c; decide
noncomputable def stable (ex : Addr -> Prop) (σ : List O) (ad : List Addr) (Λ : Addr -> Prop) (h : Heap) (b : Addr) : Prop := (∃ vs n, h.get? b = some (TO vs n)) ∨ (¬ Λ b /\ ∃ o, a6e o /\ h.get? b = some o) ∨ (¬ a3g σ ad b /\ ¬ ex b /\ ∃ o, h.get? b = some o)
inductive Wk (W : World0) (A : Around) (ex : Addr -> Prop) (σ : List O) (Λ Φ : Addr -> Prop) (ad : List Addr) (s₁ s₂ : Shared) (it : Value) (l : List V) : Prop
 | mk (I : Addr) (fp : List Addr) (P : Nat -> Value -> Prop) (Sg : Nat -> Heap -> Prop) (h1 : it = .ref I) (h2 : s₁.heap.get? I = none) (h3 : Walks W.p W.w A I fp [I] l.length P Sg) (h4 : Sg 0 s₂.heap)
  (h5 : ∀ b ∈ fp, b = I ∨ stable ex σ ad Λ s₁.heap b) (h6 : ∀ i h, Sg i h -> isIter h I) (h7 : ∀ b o, s₁.heap.get? b = some o -> s₂.heap.get? b = some o) (h8 : s₂.os = s₁.os) (h9 : s₂.gens = s₁.gens)
  (h10 : ∀ i v x, P i v -> l[i]? = some x -> ∀ Λ' ad' h', Keep Λ Λ' s₁.heap h' -> (∀ (i : Nat) (a : Addr), ad[i]? = some a -> ad'[i]? = some a) -> VRel W.gl h' Λ' Φ ad' v x) : Wk W A ex σ Λ Φ ad s₁ s₂ it l
noncomputable def notLive : V -> Bool
 | .r _ => false
 | _ => true
inductive PostI (W : World0) (X : Cx) (names : List Str) (ρ : List (Option V)) (σ : List O) (Λ : Addr -> Prop) (ad : List Addr) (s : Shared) (Q : List V -> List O -> Prop) (s₁ : Shared) (it : Value) (s₂ : Shared) : Prop
 | mk (l : List V) (σ' : List O) (Λ' : Addr -> Prop) (ad' : List Addr) (h1 : St W.gl X names ρ σ' Λ' ad' s₁) (h2 : Step (a1d X.env) σ ad Λ s.heap σ' ad' Λ' s₁.heap) (h3 : Wk W X.A (a2e X.env) σ' Λ' X.Φ ad' s₁ s₂ it l) (h4 : l.length <= 16777216) (h5 : Q l σ') : PostI W X names ρ σ Λ ad s Q s₁ it s₂
noncomputable def TI (W : World0) (k : Nat) (e : CE) (ρ : List (Option V)) (σ : List O) (Q : List V -> List O -> Prop) : Prop :=
 ∀ names sc E, isE names sc e E = true -> ∀ X : Cx, KindsOk X.env sc -> Room X.A k -> W.ok X.hB -> ∀ Λ ad s, St W.gl X names ρ σ Λ ad s ->
  wpAny (model W.p W.w) X.A (eval E X.env) (fun xv s₁ => wpAny (model W.p W.w) X.A (pyIter xv) (PostI W X names ρ σ Λ ad s Q s₁) (fun ζ ζ => False) s₁) (fun ζ ζ => False) s
section
variable {W : World0} {k : Nat} {A : Around} {s s' s'' : Shared} {F : Addr -> Prop} {sc : Scope}
variable {gl : Str -> Option Value} {X : Cx} {names : List Str} {ρ ρ' : List (Option V)} {σ σ' σ'' : List O} {Λ Λ' : Addr -> Prop} {ad ad' : List Addr}
theorem isIter.notTO {h : Heap} {I : Addr} (x : isIter h I) {vs : List Value} {n : Nat} : h.get? I ≠ some (TO vs n) := by
 obtain ⟨o, vs', n', e, _, d, _⟩ := x
 intro e'; rw [e] at e'; cases e'; cases d
theorem isIter.notData {h : Heap} {I : Addr} (x : isIter h I) {o : Obj} (e : h.get? I = some o) : ¬ a6e o := by
 obtain ⟨o', vs', n', e', _, d, _⟩ := x
 rw [e] at e'; cases e'
 rintro (⟨_, _, rfl⟩ | ⟨_, _, rfl⟩) <;> cases d
theorem isIter.notCell {h : Heap} {I : Addr} (x : isIter h I) {v : Option Value} : ¬ h.IsCell I v := by
 obtain ⟨o', vs', n', e', _, d, _⟩ := x
 rintro ⟨o, e, d'⟩
 rw [e] at e'; cases e'; rw [d] at d'; cases d'
theorem TI.seq {e : CE} {Q : List V -> List O -> Prop} (t : TE W k e ρ σ fun v σ' => ∃ b l, seqV σ' v = some (b, l) /\ notLive v = true /\ l.length <= 16777216 /\ Q l σ') : TI W k e ρ σ Q := fun names sc E he X hk hr hw Λ ad s S => by
 refine wpAny_mono (t names sc E he X hk hr hw Λ ad s S) (fun v s₁ h₁ => ?_) fun ζ ζ f => f
 obtain ⟨val, σ1, Λ1, ad1, S1, P1, r, b, l, e1, hn, hl, q⟩ := h₁
 obtain ⟨a, vs, n, rfl, h1, h2⟩ := b4y S1 r e1
 have itm : ∀ (i : Nat) (v : Value) (x : V), vs.toArray[i]? = some v -> l[i]? = some x -> ∀ Λ' ad' h', Keep Λ1 Λ' s₁.heap h' -> (∀ (i : Nat) (a : Addr), ad1[i]? = some a -> ad'[i]? = some a) -> VRel W.gl h' Λ' X.Φ ad' v x := fun i v x hv hx Λ' ad' h' K pre => by
  refine xEA (h2.get hx) fun v' hv' rv => ?_
  have : v = v' := (by
   have hv2 : vs[i]? = some v := by simpa using hv
   rw [hv2] at hv'
   exact Option.some.inj hv')
  subst this
  exact rv.keep K pre
 have hne : a ≠ s₁.heap.objs.size := fun h => by
  cases b <;> (rw [h, a0o] at h1; exact dNS h1)
 cases b with
 | true =>
  have h1' : s₁.heap.get? a = some (LO vs n) := h1
  refine wpAny_pyIter_list (a0b h1') ⟨l, σ1, Λ1, ad1, S1, P1, ⟨s₁.heap.objs.size, [s₁.heap.objs.size, a], fun i v => vs.toArray[i]? = some v, fun i h => h.IsListIter s₁.heap.objs.size a i /\ h.IsList a vs.toArray, rfl, a0o _, ?_, ?_, ?_, ?_, fun b o e => Heap.get?_push_of_some _ e, rfl, rfl, itm⟩, hl, q⟩
  ·have hsz : l.length = vs.toArray.size := by simp [h2.length]
   erw [hsz]
   exact Walks.list (prog := W.p) (w := W.w) hr.1 s₁.heap.objs.size a hne vs.toArray
  ·exact ⟨⟨_, Heap.get?_push_size _ rfl, rfl, rfl⟩, a0b (Heap.get?_push_of_some _ h1')⟩
  ·intro b hb
   simp only [List.mem_cons, List.not_mem_nil, or_false] at hb
   rcases hb with rfl | rfl
   ·exact .inl rfl
   ·refine .inr (.inr (.inl ⟨?_, _, b0q, h1'⟩))
    cases r with
    | d r => cases r with
     | lst g1 g2 g3 => exact fun h => g2 (.inl h)
     | tup _ _ => exact ff (a2f e1).1
     | _ => exact cNS e1
    | a r => cases r with
     | lst g1 g2 g3 => exact g2
     | tup _ _ => exact ff (a2f e1).1
     | _ => exact cNS e1
    | r e => simp [notLive] at hn
    | t g _ => rw [h1'] at g; exact absurd g.symm fun h => a3x h
  ·intro i h hs
   obtain ⟨o, e, c, d⟩ := hs.1
   exact ⟨o, _, _, e, c, d, c9j⟩
 | false =>
  have h1' : s₁.heap.get? a = some (TO vs n) := h1
  refine wpAny_pyIter_tuple (a0c h1') ⟨l, σ1, Λ1, ad1, S1, P1, ⟨s₁.heap.objs.size, [s₁.heap.objs.size, a], fun i v => vs.toArray[i]? = some v, fun i h => h.IsTupleIter s₁.heap.objs.size a i /\ h.IsTuple a vs.toArray, rfl, a0o _, ?_, ?_, ?_, ?_, fun b o e => Heap.get?_push_of_some _ e, rfl, rfl, itm⟩, hl, q⟩
  ·have hsz : l.length = vs.toArray.size := by simp [h2.length]
   erw [hsz]
   exact Walks.tuple (prog := W.p) (w := W.w) hr.1 s₁.heap.objs.size a hne vs.toArray
  ·exact ⟨⟨_, Heap.get?_push_size _ rfl, rfl, rfl⟩, a0c (Heap.get?_push_of_some _ h1')⟩
  ·intro b hb
   simp only [List.mem_cons, List.not_mem_nil, or_false] at hb
   rcases hb with rfl | rfl
   ·exact .inl rfl
   ·exact .inr (.inl ⟨_, _, h1'⟩)
  ·intro i h hs
   obtain ⟨o, e, c, d⟩ := hs.1
   exact ⟨o, _, _, e, c, d, c5h⟩
theorem St.poke (S : St gl X names ρ σ Λ ad s) {I : Addr} (hi : isIter s.heap I) (hB : X.hB.get? I = none) (hL : I ≠ X.env.locals) {h' : Heap} {t : Nat} (hk : ∀ b o, b ≠ I -> s.heap.get? b = some o -> h'.get? b = some o) (hΛ : ¬ Λ I) (hA : I ∉ ad) :
  St gl X names ρ σ Λ ad { s with heap := h', toks := t } /\ Keep Λ Λ s.heap h' := by
 have K : Keep Λ Λ s.heap h' := ⟨fun a vs n e => hk a _ (fun h => by subst h; exact hi.notTO e) e, fun a o ζ d e => hk a o (fun h => by subst h; exact hi.notData e d) e, fun ζ ζ n ζ ζ => n⟩
 refine ⟨⟨fun b o e => hk b o (fun h => by subst h; exact dGN hB e) (S.keep b o e), S.os, S.gens, S.new, fun a l => ?_, S.phi, S.nd, S.len, fun a ha => ?_, fun j a o e1 e2 e3 => ?_, S.locL, S.locA, S.cellN, S.rl, ?_⟩, K⟩
 ·obtain ⟨o, e⟩ := S.lt a l; exact ⟨o, hk a o (fun h => hΛ (h ▸ l)) e⟩
 ·obtain ⟨o, e⟩ := S.adl a ha; exact ⟨o, hk a o (fun h => hA (h ▸ ha)) e⟩
 ·obtain ⟨h1, h2⟩ := S.objs j a o e1 e2 e3
  exact ⟨h1, h2.keep K (fun ζ ζ e => e) fun ob e => hk a ob (fun h => hA (h ▸ a0g e1)) e⟩
 ·refine a0u S.vars fun m cm hn hc hv => ?_
  refine ⟨m, cm, ?_, fun x c e => ?_, fun x i val e1 e2 => ⟨fun h => ?_, fun h => ?_⟩⟩
  ·obtain ⟨o, es, ep, e, r⟩ := hn
   exact ⟨o, es, ep, hk _ _ (Ne.symm hL) e, r⟩
  ·have hcc := hc x c e
   obtain ⟨o, e', d⟩ := hc x c e
   exact ⟨o, hk _ _ (fun h => by subst h; exact hi.notCell hcc) e', d⟩
  ·refine xEA ((hv x i val e1 e2).1 h) fun v g1 g2 => ?_; exact ⟨v, g1, g2.keep K fun ζ ζ e => e⟩
  ·refine a0u ((hv x i val e1 e2).2 h) fun c v g0 g1 g2 => ?_; exact ⟨c, v, g0, g1, g2.keep K fun ζ ζ e => e⟩
theorem b5b {I : Addr} (hi : isIter s.heap I) {t : List Expr} {k : Nat} {p : Pos} (v : Value) {M : Model} {A : Around} {Q : Unit -> Shared -> Prop} {E : Value -> Shared -> Prop} (q : Q () s) : wpAny M A (letOwnedTupleGo (.Tuple t k p) (.ref I) v) Q E s := by
 obtain ⟨o, vs, n, e, c, d, hn⟩ := hi
 cases v with
 | ref a =>
  refine wpAny_bind (wpAny_load e ?_)
  erw [c, d]
  refine wpAny_ite_split (fun h => ?_) fun ζ => wpAny_pure q
  exact ff (hn.symm.trans (Bool.and_eq_true_iff.mp h).1)
 | _ => exact wpAny_pure q
theorem a5i {I : Addr} (hi : isIter s.heap I) (target : Expr) (v : Value) {M : Model} {A : Around} {Q : Unit -> Shared -> Prop} {E : Value -> Shared -> Prop} (q : Q () s) : wpAny M A (letOwnedTupleGo target (.ref I) v) Q E s := by
 have key := b5b hi (t := []) (k := 0) (p := target.pos) v (M := M) (A := A) (E := E) q
 cases target with
 | Tuple a b p => exact key
 | List a b => exact key
 | _ => exact wpAny_pure q
theorem a9r {names : List Str} {sc : Scope} {e : CE} {E : Expr} (h : isE names sc e E = true) (env : Env) (x : Value) : foldedSetIterable E env x = pure x := by
 cases E with
 | Set a b c => exact b2r h rfl
 | _ => rfl
noncomputable def bOne {α : Type} (is : List Nat) (f : Nat -> Option α) : Option α := match is with
 | [i] => f i
 | _ => none
noncomputable def bTup {α : Type} (o : Option (Bool × List V)) (f : List V -> Option α) : Option α := match o with
 | some (false, l) => f l
 | _ => none
theorem b3a {α : Type} {o : Option (Bool × List V)} {f : List V -> Option α} {r : α} (h : bTup o f = some r) : ∃ l, o = some (false, l) /\ f l = some r := by
 cases o with
 | none => exact cNS h
 | some p => obtain ⟨b, l⟩ := p; cases b with
  | false => exact ⟨l, rfl, h⟩
  | true => exact cNS h
noncomputable def c0w (ρ : List (Option V)) (σ : List O) (one : Bool) (is : List Nat) (x : V) : Option (List (Option V)) :=
 if one then bOne is fun i => some (ρ.set i (some x))
 else bTup (seqV σ x) fun l => if l.length = is.length then some (a2d ρ is l) else none
noncomputable def a3d (names : List Str) (sc : Scope) (one : Bool) (is : List Nat) (E : Expr) : Bool :=
 if one then a1n is fun i r => a1s r (a2l E fun x p => a1l names sc i x)
 else a3i E fun ts k p => a0s names sc is ts
theorem St.bind (S : St W.gl X names ρ σ Λ ad s) (hk : KindsOk X.env sc) (hr : Room X.A k) {one : Bool} {is : List Nat} {E : Expr} (ht : a3d names sc one is E = true) {v : Value} {val : V} (r : VRel W.gl s.heap Λ X.Φ ad v val) (e : c0w ρ σ one is val = some ρ')
  {QQ : Unit -> Shared -> Prop} {EE : Value -> Shared -> Prop} (q : ∀ s', St W.gl X names ρ' σ Λ ad s' -> Step (a1x sc X.env) σ ad Λ s.heap σ ad Λ s'.heap -> QQ () s') : wpAny (model W.p W.w) X.A (assign E X.env v) QQ EE s := by
 cases one with
 | true =>
  revert e
  apply a1b (l := is) ht; intro i r' h
  apply a1c h; intro h
  apply a2g h; intro x p h e
  obtain rfl := a0l (show some (ρ.set i (some val)) = some ρ' from e)
  exact wpAny_assign_Name (S.store hk h r q)
 | false =>
  refine xEA (b3a (o := seqV σ val) e) fun l heq e => ?_
  obtain ⟨hl, rfl⟩ := a2n e
  apply a3j (E := E) ht; intro ts a b h
  exact S.unpack hk hr h r heq hl q
inductive FInv (W : World0) (X : Cx) (names : List Str) (σ1 : List O) (Λ1 : Addr -> Prop) (ad1 : List Addr) (s₁ : Shared) (I : Addr) (Sg : Nat -> Heap -> Prop) (Inv : Nat -> List (Option V) -> List O -> Prop) (l : List V) (n : Nat) (s' : Shared) : Prop
 | mk (j : Nat) (ρ2 : List (Option V)) (σ2 : List O) (Λ2 : Addr -> Prop) (ad2 : List Addr) (h1 : n = l.length - j) (h2 : j <= l.length) (h3 : St W.gl X names ρ2 σ2 Λ2 ad2 s') (h4 : Step (a2e X.env) σ1 ad1 Λ1 s₁.heap σ2 ad2 Λ2 s'.heap) (h5 : Sg j s'.heap) (h6 : ¬ Λ2 I) (h7 : I ∉ ad2) (h8 : Inv j ρ2 σ2) : FInv W X names σ1 Λ1 ad1 s₁ I Sg Inv l n s'
theorem c0x {a b : Nat} (h : a < b) : b - (a + 1) < b - a := by exact om11 h
theorem c5j {one : Bool} {is : List Nat} {e : CE} {Q : Out -> List (Option V) -> List O -> Prop} {tg it : Expr} {bd : List Stmt} {pos : Pos} {TB : List (Option V) -> List O -> (Out -> List (Option V) -> List O -> Prop) -> Prop}
  (hTB : ∀ ρ σ Q, TB ρ σ Q -> ∀ Λ ad s, St W.gl X names ρ σ Λ ad s -> wpAny (model W.p W.w) X.A (execs bd X.env) (PostS W.gl X names σ Λ ad s Q) (fun ζ ζ => False) s)
  (t : wpAny (model W.p W.w) X.A (eval it X.env) (fun xv s₁ => wpAny (model W.p W.w) X.A (pyIter xv) (PostI W X names ρ σ Λ ad s (fun l σ1 => ∃ Inv : Nat -> List (Option V) -> List O -> Prop, Inv 0 ρ σ1 /\
   (∀ n x ρ1 σ1, l[n]? = some x -> Inv n ρ1 σ1 -> ∃ ρ2, c0w ρ1 σ1 one is x = some ρ2 /\ TB ρ2 σ1 fun out ρ3 σ3 => match out with | .next => Inv (n + 1) ρ3 σ3 | .ret v => Q (.ret v) ρ3 σ3) /\
   ∀ ρ1 σ1, Inv l.length ρ1 σ1 -> Q .next ρ1 σ1) s₁) (fun ζ ζ => False) s₁) (fun ζ ζ => False) s)
  (h1 : a3d names sc one is tg = true) (h2 : isE names sc e it = true) (hk : KindsOk X.env sc) (hr : Room X.A k) (hw : W.ok X.hB) (S : St W.gl X names ρ σ Λ ad s) :
  wpAny (model W.p W.w) X.A (exec (.For tg it bd [] pos) X.env) (PostS W.gl X names σ Λ ad s Q) (fun ζ ζ => False) s := by
 refine wpAny_For (wpAny_mono t (fun xv s₁ h₁ => wpAny_mono h₁ (fun itv s₂ h₂ => ?_) fun ζ ζ f => f) fun ζ ζ f => f) (a9r h2 _)
 obtain ⟨l, σ1, Λ1, ad1, S1, P1, ⟨I, fp, P, Sg, rfl, hI, wk, sg0, hfp, hit, hkeep, hos, hgen, hP⟩, hlen, Inv, i0, turn, fin⟩ := h₂
 have hIB : X.hB.get? I = none := by
  cases e : X.hB.get? I with
  | none => rfl
  | some o => rw [S1.keep I o e] at hI; exact dSN hI
 have hIL : I ≠ X.env.locals := fun h => by
  obtain ⟨m, o, es, ep, e, _⟩ := S1.ns
  rw [h, e] at hI; exact dSN hI
 have hIad : ∀ {σ' ad' Λ' h'}, Step (a2e X.env) σ1 ad1 Λ1 s₁.heap σ' ad' Λ' h' -> True := fun ζ => trivial
 refine codeAny_forLoop_any (FInv W X names σ1 Λ1 ad1 s₁ I Sg Inv l) ?_ (l.length - 0) ?_
 ·rintro n s' ⟨j, ρ2, σ2, Λ2, ad2, rfl, hj, S2, P2, sg, nΛ, nad, hinv⟩
  have hi₂ := hit j _ sg
  by_cases hlt : j < l.length
  ·obtain ⟨x, hx⟩ : ∃ x, l[j]? = some x := ⟨l[j], List.getElem?_eq_getElem hlt⟩
   refine wk.item j s' _ _ hlt sg fun v h' tk hPv sg' hk' => ?_
   have hkI : ∀ b o, b ≠ I -> s'.heap.get? b = some o -> h'.get? b = some o := fun b o hb e => hk' b o (by simpa using hb) e
   refine xA (S2.poke (t := tk) hi₂ hIB hIL hkI nΛ nad) fun S3 K3 => ?_
   have P3 : Step (a2e X.env) σ1 ad1 Λ1 s₁.heap σ2 ad2 Λ2 h' := ⟨fun a o nl ne e => hkI a o (fun h => by subst h; exact dGN hI e) (P2.only a o nl ne e), fun a o e => by
    obtain ⟨o', e'⟩ := P2.dom a o e
    exact ⟨o', hkI a o' (fun h => by subst h; exact dGN hI e) e'⟩, P2.lamO, P2.pre, P2.liv, P2.adO, P2.res⟩
   have rv := hP j v x hPv hx Λ2 ad2 h' ((P2.keepS S1).trans K3) P2.pre
   refine xEA (turn j x ρ2 σ2 hx hinv) fun ρ3 hb tb => ?_
   refine a5i (hit _ _ sg') _ _ (S3.bind hk hr h1 rv hb fun s₄ S4 P4 => ?_)
   refine wpAny_mono (hTB _ _ _ tb Λ2 ad2 s₄ S4) (fun f s5 h₅ => ?_) fun ζ ζ f => f.elim
   obtain ⟨out, ρ5, σ5, Λ5, ad5, S5, P5, fr, q⟩ := h₅
   have P45 := P4.ownS.trans P5
   have P15 := P3.trans P45
   cases fr with
   | ret r => exact ⟨_, ρ5, σ5, Λ5, ad5, S5, P1.own.trans P15, .ret r, q⟩
   | next =>
    refine ⟨l.length - (j + 1), c0x hlt, j + 1, ρ5, σ5, Λ5, ad5, rfl, hlt, S5, P15, ?_, ?_, ?_, q⟩
    ·refine wk.frame _ _ _ sg' fun b hb o e => ?_
     rcases hfp b hb with rfl | st
     ·obtain ⟨o', vs', n', e', _⟩ := hit _ _ sg'
      refine P45.only b o (fun h => nΛ (S3.live_lam h)) (fun h => ?_) e
      rcases h with h | ⟨y, h⟩
      ·exact hIL h
      ·refine a0u S3.vars fun m cm ζ hc ζ => ?_
       exact (hit _ _ sg').notCell (hc y _ h)
     ·have K13 := (P2.keepS S1).trans K3
      have K15 := P15.keepS S1
      rcases st with ⟨vs, n, e0⟩ | ⟨nl, o0, hd, e0⟩ | ⟨nl, ne, o0, e0⟩
      ·have := K13.tups _ _ _ e0
       rw [e] at this; cases this
       exact K15.tups _ _ _ e0
      ·have := K13.objs _ _ nl hd e0
       rw [e] at this; cases this
       exact K15.objs _ _ nl hd e0
      ·have := P3.only _ _ nl ne e0
       rw [e] at this; cases this
       exact P15.only _ _ nl ne e0
    ·intro hl
     rcases P45.lamO I hl with h | h
     ·exact nΛ h
     ·obtain ⟨o', vs', n', e', _⟩ := hit _ _ sg'
      exact dGN h e'
    ·intro hl
     rcases P45.adO I hl with h | h
     ·exact nad h
     ·obtain ⟨o', vs', n', e', _⟩ := hit _ _ sg'
      exact dGN h e'
  ·have hjl : j = l.length := Nat.le_antisymm hj (Nat.le_of_not_lt hlt)
   subst hjl
   refine wk.done s' _ _ sg fun h' tk hk' => ?_
   have hkI : ∀ b o, b ≠ I -> s'.heap.get? b = some o -> h'.get? b = some o := fun b o hb e => hk' b o (by simpa using hb) e
   refine xA (S2.poke (t := tk) hi₂ hIB hIL hkI nΛ nad) fun S3 K3 => ?_
   have P3 : Step (a2e X.env) σ1 ad1 Λ1 s₁.heap σ2 ad2 Λ2 h' := ⟨fun a o nl ne e => hkI a o (fun h => by subst h; exact dGN hI e) (P2.only a o nl ne e), fun a o e => by
    obtain ⟨o', e'⟩ := P2.dom a o e
    exact ⟨o', hkI a o' (fun h => by subst h; exact dGN hI e) e'⟩, P2.lamO, P2.pre, P2.liv, P2.adO, P2.res⟩
   exact wpAny_execs_nil ⟨.next, ρ2, σ2, Λ2, ad2, S3, P1.own.trans P3, .next, fin _ _ hinv⟩
 ·have kk : Kept X.env.locals s₁ s₂ := .of_keeps hkeep hos hgen
  refine ⟨0, ρ, σ1, Λ1, ad1, rfl, Nat.zero_le _, S1.kept kk, (Step.of_kept S1 kk).own, sg0, fun h => ?_, fun h => ?_, i0⟩
  ·obtain ⟨o, e⟩ := S1.lt I h; exact dGN hI e
  ·obtain ⟨o, e⟩ := S1.adl I h; exact dGN hI e
theorem c0y {one : Bool} {is : List Nat} {e : CE} {Q : Out -> List (Option V) -> List O -> Prop} {tg it : Expr} {bd : List Stmt} {pos : Pos} {TB : List (Option V) -> List O -> (Out -> List (Option V) -> List O -> Prop) -> Prop}
  (hTB : ∀ ρ σ Q, TB ρ σ Q -> ∀ Λ ad s, St W.gl X names ρ σ Λ ad s -> wpAny (model W.p W.w) X.A (execs bd X.env) (PostS W.gl X names σ Λ ad s Q) (fun ζ ζ => False) s)
  (t : TI W k e ρ σ fun l σ1 => ∃ Inv : Nat -> List (Option V) -> List O -> Prop, Inv 0 ρ σ1 /\
   (∀ n x ρ1 σ1, l[n]? = some x -> Inv n ρ1 σ1 -> ∃ ρ2, c0w ρ1 σ1 one is x = some ρ2 /\ TB ρ2 σ1 fun out ρ3 σ3 => match out with | .next => Inv (n + 1) ρ3 σ3 | .ret v => Q (.ret v) ρ3 σ3) /\
   ∀ ρ1 σ1, Inv l.length ρ1 σ1 -> Q .next ρ1 σ1)
  (h1 : a3d names sc one is tg = true) (h2 : isE names sc e it = true) (hk : KindsOk X.env sc) (hr : Room X.A k) (hw : W.ok X.hB) (S : St W.gl X names ρ σ Λ ad s) :
  wpAny (model W.p W.w) X.A (exec (.For tg it bd [] pos) X.env) (PostS W.gl X names σ Λ ad s Q) (fun ζ ζ => False) s :=
 c5j (e := e) hTB (t names sc it h2 X hk hr hw Λ ad s S) h1 h2 hk hr hw S
theorem TS1.for1 {i : Nat} {e : CE} {b : List CS} {Q : Out -> List (Option V) -> List O -> Prop}
  (t : TI W k e ρ σ fun l σ1 => ∃ Inv : Nat -> List (Option V) -> List O -> Prop, Inv 0 ρ σ1 /\
   (∀ n x ρ1 σ1, l[n]? = some x -> Inv n ρ1 σ1 -> TS W k b (ρ1.set i (some x)) σ1 fun out ρ3 σ3 => match out with | .next => Inv (n + 1) ρ3 σ3 | .ret v => Q (.ret v) ρ3 σ3) /\
   ∀ ρ1 σ1, Inv l.length ρ1 σ1 -> Q .next ρ1 σ1) : TS1 W k (.for1 i e b) ρ σ Q := fun names sc S he X hk hr hw Λ ad s St => by
 replace he := c4v he; obtain ⟨_, _, _, _, _, rfl, he⟩ := he
 ·simp only [Bool.and_eq_true] at he
  refine c0y (TB := TS W k b) (one := true) (is := [i]) (fun ρ σ Q t Λ ad s S => t names sc _ he.2 X hk hr hw Λ ad s S) (fun names sc E he X hk hr hw Λ ad s S => ?_) (by unfold a3d; exact he.1.1) he.1.2 hk hr hw St
  refine wpAny_mono (t names sc E he X hk hr hw Λ ad s S) (fun v s₁ h₁ => wpAny_mono h₁ (fun itv s₂ h₂ => ?_) fun ζ ζ f => f) fun ζ ζ f => f
  obtain ⟨l, σ', Λ', ad', S', P', wk, hl, Inv, i0, turn, fin⟩ := h₂
  exact ⟨l, σ', Λ', ad', S', P', wk, hl, Inv, i0, fun n x ρ1 σ1 h1 h2 => ⟨_, rfl, turn n x ρ1 σ1 h1 h2⟩, fin⟩
theorem TS1.forT {is : List Nat} {e : CE} {b : List CS} {Q : Out -> List (Option V) -> List O -> Prop}
  (t : TI W k e ρ σ fun l σ1 => ∃ Inv : Nat -> List (Option V) -> List O -> Prop, Inv 0 ρ σ1 /\
   (∀ n x ρ1 σ1, l[n]? = some x -> Inv n ρ1 σ1 -> ∃ xs, seqV σ1 x = some (false, xs) /\ xs.length = is.length /\ TS W k b (a2d ρ1 is xs) σ1 fun out ρ3 σ3 => match out with | .next => Inv (n + 1) ρ3 σ3 | .ret v => Q (.ret v) ρ3 σ3) /\
   ∀ ρ1 σ1, Inv l.length ρ1 σ1 -> Q .next ρ1 σ1) : TS1 W k (.forT is e b) ρ σ Q := fun names sc S he X hk hr hw Λ ad s St => by
 replace he := c4w he; obtain ⟨_, _, _, _, _, _, rfl, he⟩ := he
 ·simp only [Bool.and_eq_true] at he
  refine c0y (TB := TS W k b) (one := false) (is := is) (fun ρ σ Q t Λ ad s S => t names sc _ he.1.2 X hk hr hw Λ ad s S) (fun names sc E he X hk hr hw Λ ad s S => ?_) (by unfold a3d; exact he.1.1.1) he.1.1.2 hk hr hw St
  refine wpAny_mono (t names sc E he X hk hr hw Λ ad s S) (fun v s₁ h₁ => wpAny_mono h₁ (fun itv s₂ h₂ => ?_) fun ζ ζ f => f) fun ζ ζ f => f
  obtain ⟨l, σ', Λ', ad', S', P', wk, hl, Inv, i0, turn, fin⟩ := h₂
  refine ⟨l, σ', Λ', ad', S', P', wk, hl, Inv, i0, fun n x ρ1 σ1 h1 h2 => ?_, fin⟩
  refine xEAA (turn n x ρ1 σ1 h1 h2) fun xs g1 g2 g3 => ?_
  exact ⟨a2d ρ1 is xs, by unfold c0w; erw [g1]; exact if_pos g2, g3⟩
end
end Mine
end
section
open PySem PyProof.Rows PySem.SeqAt
namespace Mine
section
variable {W : World0} {k : Nat} {A : Around} {s s' s'' : Shared} {F : Addr -> Prop} {sc : Scope}
variable {gl : Str -> Option Value} {X : Cx} {names : List Str} {ρ ρ' : List (Option V)} {σ σ' σ'' : List O} {Λ Λ' : Addr -> Prop} {ad ad' : List Addr}
theorem a5j (hW : WOk W) (hk : KindsOk X.env sc) (hw : W.ok X.hB) (S : St W.gl X names ρ σ Λ ad s) {f : String} (hf : f ∈ bltNames) {x : Str} {pos : Pos} {v : Value} (hx : a1i sc f x = true) (hb : bootBuiltins (Str.ofString f) = some v) (hn : Str.ofString f ≠ "__name__") {Q E : Value -> Shared -> Prop} (q : Q v s) :
  wpAny (model W.p W.w) X.A (eval (.Name x pos) X.env) Q E s := by
 unfold a1i at hx
 simp only [Bool.and_eq_true, beq_iff_eq, Bool.not_eq_true'] at hx
 obtain ⟨⟨rfl, h2⟩, h3⟩ := hx
 have T := W.keeps hw S.keep
 exact Calls.Name_function_global hk.kind (hk.glo _ h2) (Calls.loadGlobal_builtin (by erw [hk.glob]; exact T.g) (hW.blt f hf) (by erw [hk.blt]; exact T.b) ((T.builtins _ hn).trans hb) q) h3
theorem b6u : ∀ {es : List CE} {Es : List Expr}, isEs names sc es Es = true -> ∀ pos : Pos, (backTo pos (starEach Es X.env)).any (·.1) = false
 | [], Es, h, pos => by
  first | (replace h := a0i h; obtain ⟨_, _, rfl, h⟩ := h) | (replace h := a0n h; obtain ⟨rfl, h⟩ := h)
  ·rfl
 | e :: es, Es, h, pos => by
  first | (replace h := a0i h; obtain ⟨x, xs, rfl, h⟩ := h) | (replace h := a0n h; obtain ⟨rfl, h⟩ := h)
  ·skip
   simp only [Bool.and_eq_true] at h
   erw [a0v h.1]
   have := b6u h.2 pos
   show (false || (backTo pos (starEach xs X.env)).any (·.1)) = false
   erw [this]; rfl
theorem a3e (hW : WOk W) {f : String} (hf : f ∈ bltNames) {v : Value} (hb : bootBuiltins (Str.ofString f) = some v) (hn : Str.ofString f ≠ "__name__") (hv : (∃ id, v = .builtin id) ∨ ∃ T, v = .type T) {es : List CE} {x : Str} {px pos : Pos} {args : List Expr} {Q : List V -> List O -> Prop} {QQ : Value -> Shared -> Prop} (hne : es ≠ [])
  (hx : a1i sc f x = true) (he : isEs names sc es args = true) (hk : KindsOk X.env sc) (hr : Room X.A k) (hw : W.ok X.hB) (S : St W.gl X names ρ σ Λ ad s) (t : TEs W k es ρ σ Q)
  (h : ∀ vs s₁ vals σ1 Λ1 ad1, St W.gl X names ρ σ1 Λ1 ad1 s₁ -> Step (a1d X.env) σ ad Λ s.heap σ1 ad1 Λ1 s₁.heap -> VRels W.gl s₁.heap Λ1 X.Φ ad1 vs vals -> Q vals σ1 ->
   wpAny (model W.p W.w) X.A (call v vs) QQ (fun ζ ζ => False) s₁) :
  wpAny (model W.p W.w) X.A (eval (.Call (.Name x px) args [] pos) X.env) QQ (fun ζ ζ => False) s := by
 refine Call_ (a5j hW hk hw S hf hx hb hn ?_)
 cases es with
 | nil => exact absurd rfl hne
 | cons e es =>
  have he' := he
  first | (replace he' := a0i he'; obtain ⟨y, ys, rfl, he'⟩ := he') | (replace he' := a0n he'; obtain ⟨rfl, he'⟩ := he')
  ·skip
   simp only [Bool.and_eq_true] at he'
   have key : wpAny (model W.p W.w) X.A (spliced (backTo pos (starEach (y :: ys) X.env))) (fun vs s₁ => wpAny (model W.p W.w) X.A (call v vs) QQ (fun ζ ζ => False) s₁) (fun ζ ζ => False) s :=
    wpAny_mono (t.run he hk hr hw S pos) (fun vs s₁ h₁ => by
     obtain ⟨vals, σ1, Λ1, ad1, S1, P1, r₁, q⟩ := h₁
     exact h vs s₁ vals σ1 Λ1 ad1 S1 P1 r₁ q) fun ζ ζ f => f
   rcases hv with ⟨id, rfl⟩ | ⟨T, rfl⟩
   ·exact callWith_builtin1 key (a0v he'.1 _ _) (b6u he'.2 pos)
   ·rw [a0v he'.1] at key ⊢
    exact PyProof.Rows.callWith_type (by show (false || (backTo pos (starEach ys X.env)).any (·.1)) = false; erw [b6u he'.2 pos]; rfl) (Calls.evalArgs_plain key)
theorem TE.primG (hW : WOk W) {f : String} (hf : f ∈ bltNames) {v : Value} (hb : bootBuiltins (Str.ofString f) = some v) (hn : Str.ofString f ≠ "__name__") (hv : (∃ id, v = .builtin id) ∨ ∃ T, v = .type T) {es : List CE} (hne : es ≠ []) {Q : V -> List O -> Prop}
  (t : TEs W k es ρ σ fun vals σ' => ∃ r, Q (.d r) σ' /\ ∀ X names Λ ad s vs, Room X.A k -> W.ok X.hB -> St W.gl X names ρ σ' Λ ad s -> VRels W.gl s.heap Λ X.Φ ad vs vals -> Gives W X.A (PySem.call v vs) s (Un Λ X.Φ) r) : TE W k (.prim f es) ρ σ Q :=
 fun names sc E he X hk hr hw Λ ad s S => by
  replace he := a2h he; obtain ⟨_, _, _, _, rfl, he⟩ := he
  ·simp only [Bool.and_eq_true] at he
   refine a3e hW hf hb hn hv hne he.1.1 he.1.2 hk hr hw S t fun vs s₁ vals σ1 Λ1 ad1 S1 P1 r₁ q => ?_
   refine xEA q fun r q g => ?_
   exact wpAny_mono ((g X names Λ1 ad1 s₁ vs hr hw S1 r₁).post S1 q) (fun v s₂ h₂ => h₂.trans P1) fun ζ ζ f => f
theorem a3z (n : Int) : Builtin.Range.rangeSize 0 n 1 = (n.toNat : Int) := by
 erw [rangeSize_one]; split <;> omega
theorem a1u {i : Int} (h : -(2 ^ 62) < i /\ i < 2 ^ 62) : Builtin.Range.rangeFitsLong i = true := by
 unfold Builtin.Range.rangeFitsLong
 simp only [Bool.and_eq_true, decide_eq_true_eq]
 omega
theorem b6v {a b c : Int} (ha : -(2 ^ 62) < a /\ a < 2 ^ 62) (hb : -(2 ^ 61) < b /\ b < 2 ^ 61) (hc : -(2 ^ 61) < c /\ c < 2 ^ 61) (hs : -(2 ^ 62) < Builtin.Range.rangeSize a b c /\ Builtin.Range.rangeSize a b c < 2 ^ 62) : Builtin.Range.small a b c = true := by
 unfold Builtin.Range.small
 erw [a1u ha, a1u ⟨by omega, by omega⟩, a1u ⟨by omega, by omega⟩, a1u hs]
 simp only [Bool.and_true, Bool.true_and, Bool.or_eq_true]
 right
 split
 ·exact a1u ⟨by omega, by omega⟩
 ·exact a1u ⟨by omega, by omega⟩
theorem c5k (hr : Room A k) {r : Addr} {a b c : Int} {t u v : Tok} {n : Nat} (hrg : IsRange s.heap r a b c t u v) (hsm : Builtin.Range.small a b c = true) (hn : Builtin.Range.rangeSize a b c = n) {Φ ex : Addr -> Prop} {σ : List O} {Q : Value -> Shared -> Prop} {E : Value -> Shared -> Prop}
  (q : ∀ it s₂, Wk W A ex σ Λ Φ ad s s₂ it ((List.range n).map fun (i : Nat) => .d (.int (a + (i : Int) * c))) -> Q it s₂) : wpAny (model W.p W.w) A (pyIter (.ref r)) Q E s := by
 refine wpAny_pyIter_range hrg hsm (q _ _ ⟨s.heap.objs.size, [s.heap.objs.size], fun i v => ∃ t, v = .int (a + (i : Int) * c) t, fun i h => IsRangeIter h s.heap.objs.size (a + (i : Nat) * c) ((n : Int) - (i : Nat)) c, rfl, a0o _, ?_, ?_, fun b hb => .inl (by simpa using hb), fun i h hs => ⟨_, _, _, hs, rfl, rfl, c5i⟩, fun b o e => Heap.get?_push_of_some _ e, rfl, rfl, fun i v x hp hx Λ' ad' h' K pre => ?_⟩)
 ·have := Walks.range (prog := W.p) (w := W.w) hr.1 s.heap.objs.size a c n
  simpa using this
 ·have := Heap.get?_push_size s.heap (o := { cls := .type "range_iterator", data := .fields #[rawInt a, rawInt (Builtin.Range.rangeSize a b c), rawInt c] }) rfl
  simpa [hn, IsRangeIter] using this
 ·obtain ⟨t, rfl⟩ := hp
  rw [List.getElem?_map] at hx
  cases e : (List.range n)[i]? with
  | none => rw [e] at hx; exact dNS hx
  | some j =>
   rw [e] at hx
   simp only [Option.map_some, Option.some.injEq] at hx
   subst hx
   have : j = i := by
    rw [List.getElem?_eq_some_iff] at e
    obtain ⟨_, e⟩ := e
    simpa using e.symm
   subst this
   exact .d (.int _ _)
theorem TI.range1 (hW : WOk W) {e : CE} {Q : List V -> List O -> Prop} (t : TE W k e ρ σ fun v σ' => ∃ n : Int, v = .d (.int n) /\ -(2 ^ 61) < n /\ n <= 16777216 /\ Q ((List.range n.toNat).map fun (i : Nat) => .d (.int i)) σ') : TI W k (.prim "range" [e]) ρ σ Q :=
 fun names sc E he X hk hr hw Λ ad s S => by
  replace he := a2h he; obtain ⟨_, _, _, _, rfl, he⟩ := he
  ·simp only [Bool.and_eq_true] at he
   refine a3e hW (f := "range") (by decide) (v := .type "range") (by decide +kernel) (by decide) (.inr ⟨_, rfl⟩) (es := [e]) (by simp) he.1.1 he.1.2 hk hr hw S (Q := fun vals σ' => ∃ n : Int, vals = [.d (.int n)] /\ -(2 ^ 61) < n /\ n <= 16777216 /\ Q ((List.range n.toNat).map fun (i : Nat) => .d (.int i)) σ') (t.mono fun v σ' h => ?_) fun vs s₁ vals σ1 Λ1 ad1 S1 P1 r₁ q => ?_
   ·obtain ⟨n, rfl, h⟩ := h; exact ⟨n, rfl, h⟩
   ·obtain ⟨n, rfl, n1, n2, q⟩ := q
    cases r₁ with
    | cons rv rn =>
     cases rn
     obtain ⟨tk, rfl⟩ := rv.dInv.intI
     refine call_range_1 ?_
     have kk : Kept X.env.locals s₁ { s₁ with heap := s₁.heap.push { cls := .type "range", data := .fields #[.int 0 s₁.toks, .int n tk, .int 1 (s₁.toks + 1)] }, toks := s₁.toks + 1 + 1 } := a1p
     have S2 := S1.kept kk
     refine c5k (W := W) (ex := a2e X.env) (σ := σ1) (Λ := Λ1) (ad := ad1) (Φ := X.Φ) (s := { s₁ with heap := s₁.heap.push { cls := .type "range", data := .fields #[.int 0 s₁.toks, .int n tk, .int 1 (s₁.toks + 1)] }, toks := s₁.toks + 1 + 1 }) hr (IsRange.new _ 0 n 1 _ _ _) (b6v (by omega) (by omega) (by omega) (by erw [a3z]; omega)) (a3z n) fun it s₂ wk => ?_
     refine ⟨_, σ1, Λ1, ad1, S2, P1.trans (.of_kept S1 kk), wk, by simp; exact om12 n2, ?_⟩
     simpa using q
end
end Mine
end
section
open PySem PyProof.Rows PySem.SeqAt
namespace Mine
inductive IsiD : D -> String -> Bool -> Prop
 | intInt (i : Int) : IsiD (.int i) "int" true
 | intBool (i : Int) : IsiD (.int i) "bool" false
 | boolInt (b : Bool) : IsiD (.bool b) "int" true
 | boolBool (b : Bool) : IsiD (.bool b) "bool" true
 | tup (l : List D) : IsiD (.tup l) "tuple" true
 | lst (l : List D) : IsiD (.lst l) "list" true
noncomputable def lenD : D -> Option Nat
 | .tup l => some l.length
 | .lst l => some l.length
 | .dI l => some l.length
 | _ => none
section
variable {W : World0} {k : Nat} {A : Around} {s s' s'' : Shared} {F : Addr -> Prop} {sc : Scope}
variable {gl : Str -> Option Value} {X : Cx} {names : List Str} {ρ ρ' : List (Option V)} {σ σ' σ'' : List O} {Λ Λ' : Addr -> Prop} {ad ad' : List Addr}
theorem VRels.one {h : Heap} {Φ : Addr -> Prop} {vs : List Value} {x : V} (r : VRels gl h Λ Φ ad vs [x]) : ∃ v, vs = [v] /\ VRel gl h Λ Φ ad v x := by
 cases r with | cons a b => cases b; exact ⟨_, rfl, a⟩
set_option tactic.hygienic true in
theorem c0z {v : Value} {x : D} {n : Nat} {G : Addr -> Prop} (r : DRel W.gl s.heap G v x) (e : lenD x = some n) (hn : n <= 16777216) : Gives W A (PySem.call (.builtin "len") [v]) s F (.int n) := by
 cases r with
 | tup h1 h2 =>
  obtain rfl := a0l e
  refine .int fun Q E q => len_tuple (items := _) ⟨_, h1, rfl, _, rfl⟩ (by simp only [List.size_toArray, h2.length]; omega) ?_
  have := q (s.toks + 1) (s.toks + 1 + 1)
  simpa [h2.length] using this
 | lst h1 _ h2 =>
  obtain rfl := a0l e
  refine .int fun Q E q => Calls.call_len_list (a0b h1) (by simp only [List.size_toArray, h2.length]; omega) ?_
  have := q (s.toks + 1) (s.toks + 1 + 1)
  simpa [h2.length] using this
 | dI h1 _ h2 h3 =>
  obtain rfl := a0l e
  refine xEA (a7v (p := W.p) (w := W.w) h1 h2 h3.1) fun kvs hm kv => ?_
  rename_i a es n l _
  have hl : kvs.length = l.length := by simpa using congrArg List.length kv.keys
  refine .int fun Q E q => call_len_dict (c0o h3.2) hm (by omega) ?_
  have := q (s.toks + 1) (s.toks + 1 + 1)
  simpa [hl] using this
 | _ => exact cNS e
theorem TE.len (hW : WOk W) {e : CE} {Q : V -> List O -> Prop} (t : TE W k e ρ σ fun v σ' => ∃ x n, a0h σ' v = some x /\ lenD x = some n /\ n <= 16777216 /\ Q (.d (.int n)) σ') : TE W k (.prim "len" [e]) ρ σ Q :=
 TE.primG hW (by decide) (v := .builtin "len") (by decide +kernel) (by decide) (.inl ⟨_, rfl⟩) (by simp) (t.mono fun v σ' h => by
  refine b9k h fun x n e1 e2 e3 q => ?_
  refine ⟨_, q, fun X names Λ ad s vs hr hw S rr => ?_⟩
  obtain ⟨v', rfl, r⟩ := rr.one
  exact c0z (a0z S r e1) e2 e3)
theorem TE.int1 (hW : WOk W) {e : CE} {Q : V -> List O -> Prop} (t : TE W k e ρ σ fun v σ' => ∃ b, v = .d (.bool b) /\ Q (.d (.int (if b then 1 else 0))) σ') : TE W k (.prim "int" [e]) ρ σ Q :=
 TE.primG hW (by decide) (v := .type "int") (by decide +kernel) (by decide) (.inr ⟨_, rfl⟩) (by simp) (t.mono fun v σ' h => by
  obtain ⟨b, rfl, q⟩ := h
  refine ⟨_, q, fun X names Λ ad s vs hr hw S rr => ?_⟩
  obtain ⟨v', rfl, r⟩ := rr.one
  obtain rfl := r.dInv.boolI
  exact .int fun Q E q => call_int_bool (q _ _))
theorem a7a {v : Value} {x : List D} (r : DRel W.gl s.heap F v (.tup x)) : Gives W A (PySem.call (.type "tuple") [v]) s F (.tup x) := by
 have r' := r
 cases r with
 | tup h1 h2 => exact fun L hL Q E q => call_tuple_same (a0c h1) (q _ _ .refl r')
theorem TE.tuple1 (hW : WOk W) {e : CE} {Q : V -> List O -> Prop} (t : TE W k e ρ σ fun v σ' => ∃ l, (lstV σ' v = some l ∨ v = .d (.tup l)) /\ l.length <= 16777216 /\ Q (.d (.tup l)) σ') : TE W k (.prim "tuple" [e]) ρ σ Q :=
 TE.primG hW (by decide) (v := .type "tuple") (by decide +kernel) (by decide) (.inr ⟨_, rfl⟩) (by simp) (t.mono fun v σ' h => by
  refine xEAA h fun l hl hz q => ?_
  refine ⟨_, q, fun X names Λ ad s vs hr hw S rr => ?_⟩
  obtain ⟨v', rfl, r⟩ := rr.one
  rcases hl with hl | rfl
  ·obtain ⟨a, ws, n, rfl, h1, h2⟩ := a3a S r hl
   intro L hL Q E q
   refine call_tuple_list (a0b h1) (fun h' hk => ?_) (by simp only [List.size_toArray, h2.length]; exact hz)
   refine q _ _ (.of_keeps (fun b o e => Heap.get?_push_of_some _ (hk b o e)) rfl rfl) (.tup (n := 0) (Heap.get?_push_size _ rfl) ?_)
   exact h2.keep (.of_keeps fun b o e => Heap.get?_push_of_some _ (hk b o e))
  ·exact a7a r.dInv)
theorem c5l {vs : List Value} {bs : List Bool} {G : Addr -> Prop} (r : DRels gl s.heap G vs (bs.map D.bool)) {i : Nat} {v : Value} (e : vs.toArray[i]? = some v) : v = .bool ((bs[i]?).getD false) := by
 have e' : vs[i]? = some v := by simpa using e
 have hl : i < bs.length := by
  have := (List.getElem?_eq_some_iff.mp e').1
  rw [r.length] at this; simpa using this
 refine xEA (r.get (i := i) (x := .bool bs[i]) (by simp [hl])) fun v' hv' d => ?_
 rw [e'] at hv'; cases hv'
 obtain rfl := d.boolI
 simp [hl]
theorem c5m (bs : List Bool) : ((List.range bs.length).all fun i => (bs[i]?).getD false) = bs.all id := by
 rw [Bool.eq_iff_iff, List.all_eq_true, List.all_eq_true]
 constructor
 ·intro h b hb
  obtain ⟨i, hi, rfl⟩ := List.mem_iff_getElem.mp hb
  have := h i (by simpa using hi)
  simpa [hi] using this
 ·intro h i hi
  have hi' : i < bs.length := by simpa using hi
  simpa [hi'] using h bs[i] (List.getElem_mem _)
set_option tactic.hygienic true in
theorem TE.all1 (hW : WOk W) {e : CE} {Q : V -> List O -> Prop} (t : TE W k e ρ σ fun v σ' => ∃ bs : List Bool, a0h σ' v = some (.lst (bs.map .bool)) /\ Q (.d (.bool (bs.all id))) σ') : TE W k (.prim "all" [e]) ρ σ Q :=
 TE.primG hW (by decide) (v := .builtin "all") (by decide +kernel) (by decide) (.inl ⟨_, rfl⟩) (by simp) (t.mono fun v σ' h => by
  refine xEA h fun bs e1 q => ?_
  refine ⟨_, q, fun X names Λ ad s vs hr hw S rr => ?_⟩
  obtain ⟨v', rfl, r⟩ := rr.one
  have d := a0z S r e1
  cases d with
  | lst h1 _ h2 =>
   rename_i a ws n _
   intro L hL Q E q
   have hne : a ≠ s.heap.objs.size := Nat.ne_of_lt (Heap.lt_size h1)
   refine call_all_walk (wpAny_pyIter_list (a0b h1) ⟨_, _, _, _, _, _, fun i => (bs[i]?).getD false, rfl, Walks.list (A := X.A.in1) hr.1 _ a hne ws.toArray, ⟨⟨_, Heap.get?_push_size _ rfl, rfl, rfl⟩, a0b (Heap.get?_push_of_some _ h1)⟩, fun i v s Q E hp hq => ?_, fun h' tk hk => ?_⟩)
   ·erw [c5l h2 hp]; exact wpAny_truthy_bool hq
   ·have hsz : ws.toArray.size = bs.length := by simp [h2.length]
    erw [hsz, c5m]
    exact q _ _ (.of_keeps (fun b o e => hk b o (by simpa using Nat.ne_of_lt (Heap.lt_size e)) (Heap.get?_push_of_some _ e)) rfl rfl) (.bool _))
theorem c1a {v : Value} {x : D} {c : String} {b : Bool} {G : Addr -> Prop} (r : DRel W.gl s.heap G v x) (e : IsiD x c b) : Gives W A (PySem.call (.builtin "isinstance") [v, .type c]) s F (.bool b) := by
 cases e with
 | intInt i =>
  obtain ⟨t, rfl⟩ := r.intI
  exact .bool fun Q E q => call_isinstance_yes (Tx := "int") (typeIs_int s i _) (by first | rfl | kernel_rfl) (by erw [isSubtype_type]; kernel_rfl) (q s.toks)
 | intBool i =>
  obtain ⟨t, rfl⟩ := r.intI
  exact .bool fun Q E q => PySem.call_isinstance (isinstance_false_int (by decide) (by first | rfl | kernel_rfl) (by erw [isSubtype_type]; kernel_rfl)) (q (s.toks + 1))
 | boolInt b =>
  obtain rfl := r.boolI
  exact .bool fun Q E q => call_isinstance_yes (Tx := "bool") rfl (by first | rfl | kernel_rfl) (by erw [isSubtype_type]; kernel_rfl) (q s.toks)
 | boolBool b =>
  obtain rfl := r.boolI
  exact .bool fun Q E q => call_isinstance_yes (Tx := "bool") rfl (by first | rfl | kernel_rfl) (by erw [isSubtype_type]; kernel_rfl) (q s.toks)
 | tup l =>
  obtain ⟨a, vs, n, rfl, h1, h2⟩ := r.tupI
  exact .bool fun Q E q => call_isinstance_yes (Tx := "tuple") ⟨_, h1, rfl⟩ (by first | rfl | kernel_rfl) (by erw [isSubtype_type]; kernel_rfl) (q s.toks)
 | lst l =>
  obtain ⟨a, vs, n, rfl, h1, _, h2⟩ := r.lstI
  exact .bool fun Q E q => call_isinstance_yes (Tx := "list") ⟨_, h1, rfl⟩ (by first | rfl | kernel_rfl) (by erw [isSubtype_type]; kernel_rfl) (q s.toks)
theorem c5n {c : String} {x : D} {b : Bool} (e : IsiD x c b) : c ∈ bltNames /\ bootBuiltins (Str.ofString c) = some (.type c) /\ Str.ofString c ≠ "__name__" := by
 cases e <;> exact ⟨by decide, by decide +kernel, by decide⟩
theorem TE.isi (hW : WOk W) {e : CE} {c : String} {Q : V -> List O -> Prop} (t : TE W k e ρ σ fun v σ' => ∃ x b, a0h σ' v = some x /\ IsiD x c b /\ Q (.d (.bool b)) σ') : TE W k (.isi e c) ρ σ Q :=
 fun names sc E he X hk hr hw Λ ad s S => by
  replace he := c8x he; obtain ⟨f, px, a, y, py, pos, rfl, he⟩ := he
  ·skip
   simp only [Bool.and_eq_true] at he
   refine Call_ (a5j hW hk hw S (f := "isinstance") (by decide) he.1.1 (v := .builtin "isinstance") (by decide +kernel) (by decide) ?_)
   refine callWith_builtin1 (args_cons (wpAny_mono (t names sc a he.1.2 X hk hr hw Λ ad s S) (fun v s₁ h₁ => ?_) fun ζ ζ f => f) (a0v he.1.2 _ _)) (a0v he.1.2 _ _) rfl
   obtain ⟨val, σ1, Λ1, ad1, S1, P1, r₁, x, b, ev, ei, q⟩ := h₁
   refine xAA (c5n ei) fun b1 b2 b3 => ?_
   refine args_cons (a5j hW hk hw S1 b1 he.2 b2 b3 ?_) rfl
   refine args_nil ?_
   exact wpAny_mono ((c1a (a0z S1 r₁ ev) ei).post S1 q) (fun v s₂ h₂ => h₂.trans P1) fun ζ ζ f => f
end
end Mine
end
section
open PySem PyProof.Rows PySem.SeqAt
namespace Mine
structure Src (prog : Program) (w : World) (T : String) (a : Addr) (n : Nat) (P : Nat -> Value -> Prop) (OK : Heap -> Prop) : Prop where
 kind : ∀ s : Shared, OK s.heap -> s.TypeIs (.ref a) T /\ a < s.heap.objs.size
 keep : ∀ h h' : Heap, OK h -> (∀ o, h.get? a = some o -> h'.get? a = some o) -> OK h'
 other : (Value.type T == Value.type "list") = false /\ (Value.type T == Value.type "tuple") = false
 hint : ∀ (A : Around) (E : Value -> Shared -> Prop) (s : Shared) (Q : Bool -> Shared -> Prop), OK s.heap -> Q false s -> wpAny (model prog w) A (Builtin.List.listLengthHint (.ref a)) Q E s
 walk : ∀ (A : Around) (s : Shared), A.handled = none -> OK s.heap -> ∃ (o : Obj) (St : Nat -> Heap -> Prop),
  (∀ (E : Value -> Shared -> Prop) (Q : Value -> Shared -> Prop), Q (.ref s.heap.objs.size) { s with heap := s.heap.push o } -> wpAny (model prog w) A (pyIter (.ref a)) Q E s) /\
  Walks prog w A s.heap.objs.size [s.heap.objs.size, a] [s.heap.objs.size] n P St /\ St 0 (s.heap.push o)
section
variable {prog : Program} {w : World} {A : Around} {E : Value -> Shared -> Prop} {s : Shared} {T : String} {a : Addr} {n : Nat} {P : Nat -> Value -> Prop} {OK : Heap -> Prop}
theorem c1b {R : Result -> Shared -> Prop} (K : Src prog w T a n P OK) (hh : A.handled = none) (hok : OK s.heap) (S : Addr) (res : Value) {c0 : Nat} (hSa : S ≠ a) (hS : s.heap.get? S = some { cls := .type "list", data := .seq #[] c0 })
  (hR : ∀ h' tk acc c, (∀ b o, b ≠ S -> s.heap.get? b = some o -> h'.get? b = some o) -> h'.get? S = some { cls := .type "list", dict := none, data := .seq acc c, slots := #[] } -> ItemsOf P acc n -> R (.ok (.ret res)) { s with heap := h', toks := tk }) (hn : n <= sizeLine) :
  wpAny (model prog w) A.in1 (Builtin.List.listExtendWith (.ref S) (.ref a) res)
   (fun fin s' => match fin with | .done f => R (.ok f) s' | .again c' => c'.quiet = true /\ codeAny (model prog w) A c' R s') (fun e s' => R (.error e) s') s := by
 have hSz := Heap.lt_size hS
 have hSf : S ∉ [s.heap.objs.size, a] := by
  simp only [List.mem_cons, List.not_mem_nil, or_false, not_or]; exact ⟨Nat.ne_of_lt hSz, hSa⟩
 refine a0u (K.walk A.in1 s hh hok) fun oI St hit Wk st => ?_
 have loop : ∀ (h : Heap) (c tk : Nat), St 0 h -> (∀ b o, b ≠ S -> s.heap.get? b = some o -> h.get? b = some o) -> h.get? S = some { cls := .type "list", data := .seq #[] c } ->
   codeAny (model prog w) A (.builtin "list.extend.loop" ⟨[.ref S, .ref s.heap.objs.size, res], []⟩) R { s with heap := h, toks := tk } := fun h c tk hst hk hS' => by
  refine codeAny_extend_loopS Wk.toS hn S hSf res n 0 _ #[] c rfl (Nat.zero_le _) hst hS' (ItemsOf.nil _) fun s' acc c' hm hS2 hacc => ?_
  erw [Moved.eq_with hm]
  refine hR s'.heap s'.toks acc c' (fun b o hb e => hm.heap b o (fun hmem => ?_) (hk b o hb e)) hS2 hacc
  rcases List.mem_cons.mp hmem with e' | hmem
  ·exact hb e'
  ·rw [List.mem_singleton.mp hmem] at e; exact Nat.lt_irrefl _ (Heap.lt_size e)
 unfold Builtin.List.listExtendWith
 refine wpAny_bind (wpAny_typeOf (T := T) (K.kind s hok).1 ?_)
 have h1 : Builtin.List.listSameRef (.ref S) (.ref a) = false := by simp [Builtin.List.listSameRef, hSa]
 simp only [h1, K.other.1, K.other.2, Bool.or_false, Bool.false_eq_true, if_false]
 refine wpAny_bind (hit _ _ ?_)
 have hS1 := Heap.get?_push_of_some oI hS
 refine wpAny_bind (wpAny_holding (K.hint _ _ _ _ (K.keep _ _ hok fun o e => Heap.get?_push_of_some _ e) ?_))
 refine wpAny_ite_split (fun ζ => ?_) (fun ζ => wpAny_pure ⟨plainId_quiet PySem.F.plain_extend_loop _, loop _ c0 _ st (fun b o ζ e => Heap.get?_push_of_some _ e) hS1⟩)
 refine wpAny_bind (wpAny_rule ?_)
 refine wpAny_bind ?_
 show wpAny _ _ (updateSeq S (·.push .none) >>= fun ζ => updateSeq S (·.pop)) _ _ _
 refine wpAny_bind (wpAny_updateSeq hS1 rfl ?_)
 have hS2 := Heap.get?_update_self (Obj.mapSeq (·.push Value.none)) hS1 rfl
 refine wpAny_updateSeq (hz := by seq_fits) hS2 rfl ?_
 have hS3 := Heap.get?_update_self (Obj.mapSeq (·.pop)) hS2 rfl
 have oth : ∀ b o, b ≠ S -> (s.heap.push oI).get? b = some o -> (((s.heap.push oI).update S (Obj.mapSeq (·.push Value.none))).update S (Obj.mapSeq (·.pop))).get? b = some o := fun b o hb e =>
  (Heap.get?_update_other _ _ (Ne.symm hb)).trans ((Heap.get?_update_other _ _ (Ne.symm hb)).trans e)
 refine wpAny_pure ⟨plainId_quiet PySem.F.plain_extend_loop _, loop _ _ _ (Wk.frame 0 _ _ st fun b hb o e => oth b o (fun h => hSf (h ▸ hb)) e) (fun b o hb e => oth b o hb (Heap.get?_push_of_some _ e)) hS3⟩
theorem a8b {R : List Value -> Shared -> Prop} (K : Src prog w T a n P OK) (hh : A.handled = none) (hok : OK s.heap) (hn : n <= sizeLine)
  (h : ∀ (h' : Heap) (tk : Nat) (acc : Array Value), (∀ b o, s.heap.get? b = some o -> h'.get? b = some o) -> ItemsOf P acc n -> R acc.toList { s with heap := h', toks := tk }) :
  wpAny (model prog w) A (collect (.ref a)) R E s := by
 have hlt := (K.kind _ hok).2
 unfold collect
 refine wpAny_bind (wpAny_runValue (codeAny_builtin entry_proto_collect' ?_))
 erw [Around.under_plainId PySem.F.plain_proto_collect _]
 show wpAny _ A.in1 (newList [] >>= fun l => again (.builtin "list.__iadd__" ⟨[l, .ref a], []⟩)) _ _ s
 refine wpAny_bind (wpAny_newObj_type ?_)
 refine wpAny_pure ⟨plainId_quiet PySem.F.plain_list_iadd _, codeAny_builtin entry_list_iadd' ?_⟩
 erw [Around.under_plainId PySem.F.plain_list_iadd _]
 have hS : (s.heap.push { cls := .type "list", data := .seq ([] : List Value).toArray }).get? s.heap.objs.size = some { cls := .type "list", data := .seq #[] } := Heap.get?_push_size _ rfl
 show wpAny _ A.in1 (Builtin.List.listExtendWith (.ref s.heap.objs.size) (.ref a) (.ref s.heap.objs.size)) _ _ _
 have key := c1b (A := A) (s := { s with heap := s.heap.push { cls := .type "list", data := .seq ([] : List Value).toArray } })
  (R := fun (q : Result) (s' : Shared) => ∃ (h' : Heap) (tk : Nat) (acc : Array Value) (c : Nat), q = .ok (.ret (.ref s.heap.objs.size)) /\ s' = { s with heap := h', toks := tk } /\
   (∀ b o, s.heap.get? b = some o -> h'.get? b = some o) /\ h'.get? s.heap.objs.size = some { cls := .type "list", dict := none, data := .seq acc c, slots := #[] } /\ ItemsOf P acc n)
  K hh (K.keep _ _ hok fun o e => Heap.get?_push_of_some _ e) s.heap.objs.size (.ref s.heap.objs.size) (Nat.ne_of_gt hlt) hS
  (fun h' tk acc c hk hS' hacc => ⟨h', tk, acc, c, rfl, rfl, fun b o e => hk b o (Nat.ne_of_lt (Heap.lt_size e)) (Heap.get?_push_of_some _ e), hS', hacc⟩) hn
 refine wpAny_mono key (fun f s' x => ?_) fun e s' x => ?_
 ·cases f with
  | done f =>
   obtain ⟨h', tk, acc, c, e, rfl, hk, hS', hacc⟩ := x
   cases e
   show wpAny _ A (load s.heap.objs.size >>= _) _ _ _
   exact wpAny_bind (wpAny_load hS' (wpAny_pure (h h' tk acc hk hacc)))
  | again c =>
   refine ⟨x.1, codeAny_mono x.2 fun q s₂ y => ?_⟩
   obtain ⟨h', tk, acc, c, rfl, rfl, hk, hS', hacc⟩ := y
   show wpAny _ A (load s.heap.objs.size >>= _) _ _ _
   exact wpAny_bind (wpAny_load hS' (wpAny_pure (h h' tk acc hk hacc)))
 ·refine c7a x fun ζ ζ ζ ζ e' ζ => ?_
  cases e'
theorem c1c {r : Addr} {Q : Bool -> Shared -> Prop} (hT : s.TypeIs (.ref r) "dict") (h : Q false s) : wpAny (model prog w) A (Builtin.List.listLengthHint (.ref r)) Q E s := by
 unfold Builtin.List.listLengthHint
 refine wpAny_bind (wpAny_specialOf hT PySem.F.slot_dict_len.lookup ?_)
 generalize hid : ("dict.__len__" : String) = id0
 wp_delta
 erw [show splitId id0 = some ("dict", "__len__") from by subst hid; decide +kernel]
 subst hid
 refine wpAny_bind (wpAny_isInstance (T := "dict") (b := true) hT (by erw [isSubtype_type]; kernel_rfl) ?_)
 refine wpAny_ite_split (fun hab => absurd hab (by decide)) (fun ζ => ?_)
 refine wpAny_ite_split (fun ζ => ?_) (fun hab => absurd (by decide +kernel) hab)
 refine wpAny_bind (wpAny_typeOf hT ?_)
 exact wpAny_pure h
theorem c5o {K : Type} [DecidableEq K] {knd : KeyKind prog w K} {d : Addr} {kvs : List (K × Value)} {ep : Nat} (lo : (d == sysModules) = false) : Src prog w "dict" d kvs.length (fun i v => ∃ k x, kvs[i]? = some (k, x) /\ knd.is k v = true) (fun h => h.DictAt knd d kvs ep) where
 kind := fun ζ hm => ⟨hm.dictOf.typeIs, hm.lt_size⟩
 keep := fun ζ ζ hm hk => hm.at' fun o e => hk o e
 other := ⟨by decide, by decide⟩
 hint := fun ζ ζ ζ ζ hm hq => c1c hm.dictOf.typeIs hq
 walk := fun ζ ζ hh hm => ⟨_, _, (fun ζ ζ hq => wpAny_pyIter_dict lo hm hq), Walks.dictKeys hh _ d (Nat.ne_of_lt hm.lt_size) kvs ep, ⟨⟨_, Heap.get?_push_size _ rfl, rfl, rfl⟩, hm.push _⟩⟩
end
end Mine
end
section
open PySem PyProof.Rows PySem.SeqAt
namespace Mine
section
variable {prog : Program} {w : World} {A : Around} {E : Value -> Shared -> Prop} {s : Shared} {d I : Addr} {es : List DictEntry} {ep : Nat}
end
section
variable {prog : Program} {w : World} {A : Around} {E : Value -> Shared -> Prop} {s : Shared} {T : String} {a : Addr} {n : Nat} {P : Nat -> Value -> Prop} {OK : Heap -> Prop}
end
end Mine
end
section
open PySem PyProof.Rows PySem.SeqAt
namespace Mine
section
variable {W : World0} {k : Nat} {A : Around} {s s' s'' : Shared} {F : Addr -> Prop} {sc : Scope}
variable {gl : Str -> Option Value} {X : Cx} {names : List Str} {ρ ρ' : List (Option V)} {σ σ' σ'' : List O} {Λ Λ' : Addr -> Prop} {ad ad' : List Addr}
theorem a9s {acc : List Value} : ∀ {ns : List Int}, acc.length = ns.length -> (∀ (j : Nat) v, acc[j]? = some v -> ∃ n t, ns[j]? = some n /\ v = .int n t) -> IntsAre acc ns := by
 induction acc with
 | nil => intro ns hl h; cases ns with
  | nil => exact .nil
  | cons a b => simp at hl
 | cons v vs ih =>
  intro ns hl h
  cases ns with
  | nil => simp at hl
  | cons n ns =>
   refine xEEA (h 0 v rfl) fun n' t e1 e2 => ?_
   simp at e1; subst e1; subst e2
   exact .cons _ _ (ih (by simpa using hl) fun j v' hj => by simpa using h (j + 1) v' (by simpa using hj))
noncomputable def a8c (ns : List Int) : List Int := ns.mergeSort (fun a b => decide (a <= b))
theorem a6f (ns : List Int) : (a8c ns).Perm ns := List.mergeSort_perm _ _
theorem a8d (ns : List Int) : (a8c ns).Pairwise (· <= ·) := by
 have := List.pairwise_mergeSort (le := fun (a b : Int) => decide (a <= b)) (fun a b c => by simp; exact om13) (fun a b => by simp; exact om14) ns
 simpa [a8c] using this
theorem a5k : ∀ {a b : List Int}, a.Perm b -> a.Pairwise (· <= ·) -> b.Pairwise (· <= ·) -> a = b := by
 intro a b hp ha hb
 exact List.Perm.eq_of_pairwise (fun x y ζ ζ h1 h2 => Int.le_antisymm h1 h2) ha hb hp
theorem c1d {vs : List Value} {ns : List Int} (hI : IntsAre vs ns) (h64 : ns.length < 64) (hF : ∀ a, F a -> used s a) {h' : Heap} {tk : Nat} (hk : ∀ b o, s.heap.get? b = some o -> h'.get? b = some o) {Q E : Value -> Shared -> Prop}
  (q : ∀ v s', (∀ b o, s.heap.get? b = some o -> s'.heap.get? b = some o) -> s'.os = s.os -> s'.gens = s.gens -> DRel W.gl s'.heap F v (.lst ((a8c ns).map .int)) -> Q v s') :
  wpAny (model W.p W.w) A (newList vs) (fun l s₁ => wpAny (model W.p W.w) A (PySem.call (.builtin "list.sort") [l]) (fun ζ s₂ => Q l s₂) E s₁) E { s with heap := h', toks := tk } := by
 have hl := IntsAre.length hI
 refine wpAny_newList ?_ (by erw [sizeLine_eq]; exact om15 hl h64)
 have hoL : (h'.push (seqObj "list" vs.toArray 0)).get? h'.objs.size = some (seqObj "list" vs.toArray 0) := Heap.get?_push_size _ rfl
 refine wpAny_call_entry slot_list_sort ⟨_, hoL, rfl⟩ entry_list_sort (list_sort_tree hoL hI (om16 hl h64) fun out ns' a1 a2 a3 => ⟨_, rfl, ?_⟩) (args_list_sort _)
 obtain ⟨e, he⟩ := sortedHeap_at (out := out) hoL
 have hold : ∀ b o, h'.get? b = some o -> (sortedHeap (h'.push (seqObj "list" vs.toArray 0)) h'.objs.size vs out).get? b = some o := fun b o e => by
  have hlt := Heap.lt_size e
  rw [sortedHeap_old (Nat.ne_of_lt hlt) (by rw [size_push']; exact Nat.lt_succ_of_lt hlt)]
  exact Heap.get?_push_of_some _ e
 have es : ns' = a8c ns := a5k (a2.trans (a6f ns).symm) a3 (a8d ns)
 subst es
 refine q _ _ (fun b o e => hold b o (hk b o e)) rfl rfl (.lst (vs := out.toList) (n := e) (by simpa [LO] using he) (fun hf => ?_) (DRels.ints a1))
 obtain ⟨o, e'⟩ := hF _ hf
 exact absurd (Heap.lt_size (hk _ _ e')) (Nat.lt_irrefl _)
theorem a8e (hF : ∀ a, F a -> used s a) (hr : Room A k) {v : Value} {l : List (Int × D)} {G : Addr -> Prop} (r : DRel W.gl s.heap G v (.dI l)) (h64 : l.length < 64) : Gives W A (PySem.call (.builtin "sorted") [v]) s F (.lst ((a8c (l.map (·.1))).map .int)) := by
 cases r with
 | dI h1 _ h2 h3 =>
  refine xEA (a7v (p := W.p) (w := W.w) h1 h2 h3.1) fun kvs hm kv => ?_
  obtain ⟨ep, hat⟩ := hm.dictAt
  have hl : kvs.length = l.length := by simpa using congrArg List.length kv.keys
  intro L hL Q E q
  refine Calls.call_function_entry kind_sorted plain_sorted entry_sorted (args_sorted1 _) ?_
  unfold Builtin.«sorted»
  refine wpAny_bind (m := checkCount "sorted" 1 1 _) (wpAny_pure ?_)
  refine wpAny_bind (a8b (A := A.in1) (c5o (knd := intKind W.p W.w) (kvs := kvs) (ep := ep) (c0o h3.2)) hr.1 hat (by erw [sizeLine_eq]; exact om15 hl h64) fun h' tk acc hk hacc => ?_)
  have hI : IntsAre acc.toList (l.map (·.1)) := by
   refine a9s (by erw [Array.length_toList, hacc.1, hl]; simp) fun j v hj => ?_
   refine xEEA (hacc.2 j v (by erw [← Array.getElem?_toList]; exact hj)) fun key x g1 g2 => ?_
   have : (l.map (·.1))[j]? = some key := by erw [← kv.keys, List.getElem?_map, g1]; rfl
   refine ⟨key, ?_⟩
   cases v with
   | int i t =>
    have : i = key := by simpa [intKind, Value.isInt] using g2
    subst this
    exact ⟨t, by assumption, rfl⟩
   | _ => simp [intKind, Value.isInt] at g2
  refine wpAny_bind (wpAny_mono (c1d (W := W) (A := A.in1) (s := s) (F := F) (tk := tk) hI (by simpa using h64) hF hk (E := E) (Q := fun v s' => Q v s') fun v s' g1 g2 g3 g4 => q v s' (.of_keeps g1 g2 g3) g4) (fun l s₁ h₁ => ?_) fun ζ ζ e => e)
  exact wpAny_bind (wpAny_holding (wpAny_mono h₁ (fun ζ s₂ h₂ => wpAny_pure ⟨_, rfl, h₂⟩) fun ζ ζ e => e))
theorem TE.sortedD (hW : WOk W) {e : CE} {Q : V -> List O -> Prop} (t : TE W k e ρ σ fun v σ' => ∃ l, a0h σ' v = some (.dI l) /\ l.length < 64 /\ Q (.d (.lst ((a8c (l.map (·.1))).map .int))) σ') : TE W k (.prim "sorted" [e]) ρ σ Q :=
 TE.primG hW (by decide) (v := .builtin "sorted") (by decide +kernel) (by decide) (.inl ⟨_, rfl⟩) (by simp) (t.mono fun v σ' h => by
  refine xEAA h fun l e1 h64 q => ?_
  refine ⟨_, q, fun X names Λ ad s vs hr hw S rr => ?_⟩
  obtain ⟨v', rfl, r⟩ := rr.one
  exact a8e S.usedF hr (a0z S r e1) h64)
theorem b0u {R : List Value -> Shared -> Prop} {E : Value -> Shared -> Prop} {r : Addr} {a b c : Int} {t u v : Tok} {n : Nat} (hh : A.handled = none) (hr : IsRange s.heap r a b c t u v) (hsmall : Builtin.Range.small a b c = true) (hn : Builtin.Range.rangeSize a b c = n) (hlen : n <= 2 ^ 24)
  (h : ∀ (h' : Heap) (tk : Nat) (acc : Array Value), (∀ b o, s.heap.get? b = some o -> h'.get? b = some o) -> ItemsOf (fun i v => ∃ t, v = .int (a + i * c) t) acc n -> R acc.toList { s with heap := h', toks := tk }) :
  wpAny (model W.p W.w) A (collect (.ref r)) R E s := by
 unfold collect
 refine wpAny_bind (wpAny_runValue (codeAny_builtin entry_proto_collect' ?_))
 erw [Around.under_plainId PySem.F.plain_proto_collect _]
 show wpAny _ A.in1 (newList [] >>= fun l => again (.builtin "list.__iadd__" ⟨[l, .ref r], []⟩)) _ _ s
 refine wpAny_bind (wpAny_newObj_type ?_)
 refine wpAny_pure ⟨plainId_quiet PySem.F.plain_list_iadd _, codeAny_builtin entry_list_iadd' ?_⟩
 erw [Around.under_plainId PySem.F.plain_list_iadd _]
 have hS₁ : (s.heap.push { cls := .type "list", data := .seq ([] : List Value).toArray }).get? s.heap.objs.size = some { cls := .type "list", data := .seq #[] } := Heap.get?_push_size _ rfl
 show wpAny _ A.in1 (Builtin.List.listExtendWith (.ref s.heap.objs.size) (.ref r) (.ref s.heap.objs.size)) _ _ _
 have key := wpAny_extend_range (prog := W.p) (w := W.w) (A := A) (s := { s with heap := s.heap.push { cls := .type "list", data := .seq ([] : List Value).toArray } })
  (R := fun (q : Result) (s' : Shared) => ∃ (h' : Heap) (tk : Nat) (acc' : Array Value) (c' : Nat), q = .ok (.ret (.ref s.heap.objs.size)) /\ s' = { s with heap := h', toks := tk } /\
   (∀ b o, s.heap.get? b = some o -> h'.get? b = some o) /\ h'.get? s.heap.objs.size = some { cls := .type "list", dict := none, data := .seq acc' c', slots := #[] } /\ ItemsOf (fun i v => ∃ t, v = .int (a + i * c) t) acc' n)
  hh (Heap.get?_push_of_some _ hr) hsmall hn hlen s.heap.objs.size (.ref s.heap.objs.size) 0 hS₁
  (fun h' tk acc' c' hk hS' hacc => ⟨h', tk, acc', c', rfl, rfl, fun b o e => hk b o (Nat.ne_of_lt (Heap.lt_size e)) (Heap.get?_push_of_some _ e), hS', hacc⟩)
 refine wpAny_mono key (fun fin s' x => ?_) fun e s' x => ?_
 ·cases fin with
  | done f =>
   obtain ⟨h', tk, acc', c', e, rfl, hk, hS', hacc⟩ := x
   cases e
   show wpAny _ A (load s.heap.objs.size >>= _) _ _ _
   refine wpAny_bind (wpAny_load hS' ?_)
   exact wpAny_pure (h h' tk acc' hk hacc)
  | again c₁ =>
   refine ⟨x.1, codeAny_mono x.2 fun q s₂ y => ?_⟩
   obtain ⟨h', tk, acc', c', rfl, rfl, hk, hS', hacc⟩ := y
   show wpAny _ A (load s.heap.objs.size >>= _) _ _ _
   refine wpAny_bind (wpAny_load hS' ?_)
   exact wpAny_pure (h h' tk acc' hk hacc)
 ·refine c7a x fun ζ ζ ζ ζ e' ζ => ?_
  cases e'
theorem a4e {Q₁ : Value -> Shared -> Prop} {E : Value -> Shared -> Prop} {r : Addr} {a b c : Int} {t u v : Tok} {n : Nat} (hh : A.handled = none) (hr : IsRange s.heap r a b c t u v) (hsmall : Builtin.Range.small a b c = true) (hn : Builtin.Range.rangeSize a b c = n) (hlen : n <= 2 ^ 24)
  (h : ∀ (h' : Heap) (tk : Nat) (acc : Array Value), (∀ b o, s.heap.get? b = some o -> h'.get? b = some o) -> ItemsOf (fun i v => ∃ t, v = .int (a + i * c) t) acc n -> Q₁ (.ref h'.objs.size) { s with heap := h'.push { cls := .type "tuple", data := .seq acc }, toks := tk }) :
  codeAny (model W.p W.w) A (.call (.builtin "tuple.__new__") ⟨[.type "tuple", .ref r], []⟩) (wants Q₁ E) s := by
 refine codeAny_of_tree ?_
 show wpAny _ A.in1 (do checkBuiltinCall "tuple.__new__" ⟨[.type "tuple", .ref r], []⟩; again (.builtin "tuple.__new__" ⟨[.type "tuple", .ref r], []⟩)) _ _ s
 refine wpAny_bind (wpAny_of_eq (PySem.F.newCall_tuple_1 _) (wpAny_pure ⟨plainId_quiet PySem.F.plain_tuple_new _, codeAny_builtin PySem.F.entry_tuple_new ?_⟩))
 erw [Around.under_plainId PySem.F.plain_tuple_new _]
 have hsub := sub_tuple_self
 have hinit := init_tuple_lookup
 have hmh := madeHere_tuple
 have hTI : s.TypeIs (.ref r) "range" := ⟨_, hr, rfl⟩
 wp_walk using wpAny_typeOf hTI, (b0u (W := W) (A := A.in1) hh hr hsmall hn hlen)
 intro h' tk acc hk hacc
 show wpAny _ _ (Builtin.Tuple.tupleExact acc.toList.toArray >>= fun v => ret v) _ _ _
 unfold Builtin.Tuple.tupleExact
 refine wpAny_bind (wpAny_newObj_type ?_ (by show acc.toList.toArray.size <= sizeLine; simp only [Array.toArray_toList]; erw [hacc.1, sizeLine_eq]; omega))
 refine wpAny_pure ?_
 have e : acc.toList.toArray = acc := by simp
 erw [e]
 exact h h' tk acc hk hacc
theorem a7b {Q : Value -> Shared -> Prop} {E : Value -> Shared -> Prop} {r : Addr} {a b c : Int} {t u v : Tok} {n : Nat} (hh : A.handled = none) (hr : IsRange s.heap r a b c t u v) (hsmall : Builtin.Range.small a b c = true) (hn : Builtin.Range.rangeSize a b c = n) (hlen : n <= 2 ^ 24)
  (h : ∀ (h' : Heap) (tk : Nat) (acc : Array Value), (∀ b o, s.heap.get? b = some o -> h'.get? b = some o) -> ItemsOf (fun i v => ∃ t, v = .int (a + i * c) t) acc n -> Q (.ref h'.objs.size) { s with heap := h'.push { cls := .type "tuple", data := .seq acc }, toks := tk }) :
  wpAny (model W.p W.w) A (PySem.call (.type "tuple") [.ref r]) Q E s := by
 refine callType_codes (Q₁ := fun obj s₁ => s₁.TypeIs obj "tuple" /\ Q obj s₁) PySem.F.called_tuple (PySem.F.typeCall_tuple_1 _) PySem.F.entry_object_init
  (a4e (W := W) (A := A.in1) hh hr hsmall hn hlen fun h' tk acc hk hacc => ⟨⟨_, Heap.get?_push_size _ rfl, rfl⟩, h h' tk acc hk hacc⟩) fun obj s₁ h₁ => ?_
 exact ⟨h₁.1, PySem.F.args_object_init_2 obj _, object_init_meets PySem.F.called_tuple.init.lookup PySem.F.called_tuple.made (by decide) W.p W.w A.in1 _ s₁ ⟨h₁.1, rfl, h₁.2⟩⟩
theorem c5p {n : Nat} {acc : Array Value} {c : Int} (h : ItemsOf (fun i v => ∃ t, v = .int (0 + (i : Int) * 1) t) acc n) : IntsAre acc.toList ((List.range n).map fun (i : Nat) => (i : Int)) :=
 a9s (by simp [h.1]) fun j v hj => by
  obtain ⟨t, rfl⟩ := h.2 j v (by erw [← Array.getElem?_toList]; exact hj)
  have hlt : j < n := by
   have := (List.getElem?_eq_some_iff.mp hj).1
   rw [Array.length_toList, h.1] at this; exact this
  exact ⟨j, t, by simp [hlt], by simp⟩
theorem TE.tupRange (hW : WOk W) {e : CE} {Q : V -> List O -> Prop} (t : TE W k e ρ σ fun v σ' => ∃ n : Int, v = .d (.int n) /\ -(2 ^ 61) < n /\ n <= 16777216 /\ Q (.d (.tup ((List.range n.toNat).map fun (i : Nat) => .int i))) σ') : TE W k (.prim "tuple" [.prim "range" [e]]) ρ σ Q :=
 fun names sc E he X hk hr hw Λ ad s S => by
  replace he := a2h he; obtain ⟨_, _, _, _, rfl, he⟩ := he
  ·simp only [Bool.and_eq_true] at he
   obtain ⟨⟨hg, hes⟩, _⟩ := he
   first | (replace hes := a0i hes; obtain ⟨y, ys, rfl, hes⟩ := hes) | (replace hes := a0n hes; obtain ⟨rfl, hes⟩ := hes)
   ·skip
    simp only [Bool.and_eq_true] at hes
    obtain ⟨hy, hnil⟩ := hes
    first | (replace hnil := a0i hnil; obtain ⟨_, _, rfl, hnil⟩ := hnil) | (replace hnil := a0n hnil; obtain ⟨rfl, hnil⟩ := hnil)
    ·refine Call_ (a5j hW hk hw S (f := "tuple") (by decide) hg (v := .type "tuple") (by decide +kernel) (by decide) ?_)
     erw [a0v hy]
     refine PyProof.Rows.callWith_type rfl (Calls.evalArgs_plain (Calls.spliced_cons ?_))
     replace hy := a2h hy; obtain ⟨_, _, _, _, rfl, hy⟩ := hy
     ·simp only [Bool.and_eq_true] at hy
      refine a3e hW (f := "range") (by decide) (v := .type "range") (by decide +kernel) (by decide) (.inr ⟨_, rfl⟩) (es := [e]) (by simp) hy.1.1 hy.1.2 hk hr hw S (Q := fun vals σ' => ∃ n : Int, vals = [.d (.int n)] /\ -(2 ^ 61) < n /\ n <= 16777216 /\ Q (.d (.tup ((List.range n.toNat).map fun (i : Nat) => .int i))) σ') (t.mono fun v σ' h => ?_) fun vs s₁ vals σ1 Λ1 ad1 S1 P1 r₁ q => ?_
      ·obtain ⟨n, rfl, h⟩ := h; exact ⟨n, rfl, h⟩
      ·obtain ⟨n, rfl, n1, n2, q⟩ := q
       obtain ⟨v', rfl, r⟩ := r₁.one
       obtain ⟨tk, rfl⟩ := r.dInv.intI
       refine call_range_1 (Calls.spliced_nil ?_)
       have kk : Kept X.env.locals s₁ { s₁ with heap := s₁.heap.push { cls := .type "range", data := .fields #[.int 0 s₁.toks, .int n tk, .int 1 (s₁.toks + 1)] }, toks := s₁.toks + 1 + 1 } := a1p
       refine a7b (W := W) (s := { s₁ with heap := s₁.heap.push { cls := .type "range", data := .fields #[.int 0 s₁.toks, .int n tk, .int 1 (s₁.toks + 1)] }, toks := s₁.toks + 1 + 1 }) hr.1 (IsRange.new _ 0 n 1 _ _ _) (b6v (by omega) (by omega) (by omega) (by erw [a3z]; omega)) (a3z n) (by omega) fun h' tk' acc hk' hacc => ?_
       have kk2 : Kept X.env.locals s₁ { s₁ with heap := h'.push { cls := .type "tuple", data := .seq acc }, toks := tk' } := .of_keeps (fun b o e => Heap.get?_push_of_some _ (hk' b o (Heap.get?_push_of_some _ e))) rfl rfl
       have hi := c5p (c := 1) hacc
       refine Post.trans P1 (Post.pure S1 kk2 (.d (.tup (vs := acc.toList) (n := 0) (by simpa [TO] using Heap.get?_push_size h' (o := { cls := .type "tuple", data := .seq acc }) rfl) ?_)) q)
       have := DRels.ints (gl := W.gl) (h := h'.push { cls := .type "tuple", data := .seq acc }) (Λ := Un Λ1 X.Φ) hi
       simpa [Function.comp_def] using this
end
end Mine
end
section
open PySem PyProof.Rows PySem.SeqAt
namespace Mine
theorem a4k {env : Env} : ∀ (names : List (Str × NameKind)) (x : Str),
  (names.map fun (n, k) => if (k == NameKind.free && env.scope.kind == .function && env.kindOf n == some .cell) then (n, NameKind.cell) else (n, k)).lookup x =
  (names.lookup x).map fun k => if (k == NameKind.free && env.scope.kind == .function && env.kindOf x == some .cell) then NameKind.cell else k
 | [], _ => rfl
 | (n, k) :: r, x => by
  have ih := a4k (env := env) r x
  simp only [List.map_cons]
  cases hx : x == n with
  | true =>
   have : x = n := beq_iff_eq.mp hx
   subst this
   by_cases hc : (k == NameKind.free && env.scope.kind == .function && env.kindOf x == some .cell) = true
   ·erw [if_pos hc]; simp only [List.lookup_cons, beq_self_eq_true, Option.map_some, if_pos hc]
   ·erw [if_neg hc]; simp only [List.lookup_cons, beq_self_eq_true, Option.map_some, if_neg hc]
  | false =>
   by_cases hc : (k == NameKind.free && env.scope.kind == .function && env.kindOf n == some .cell) = true
   ·erw [if_pos hc]; simp only [List.lookup_cons, hx]; exact ih
   ·erw [if_neg hc]; simp only [List.lookup_cons, hx]; exact ih
theorem a3l {env : Env} (f : Str × NameKind -> List (Str × Addr) -> Sem (ForInStep (List (Str × Addr))))
  (hf : ∀ name kind cs, f (name, kind) cs = if kind == .free then (do let a ← cellOf env name; pure (.yield ((name, a) :: cs))) else pure (.yield cs)) :
  ∀ (l : List (Str × NameKind)) (acc : List (Str × Addr)), (∀ y ∈ l, y.2 = .free -> ∃ c, env.cells.lookup y.1 = some c) ->
   ∃ cl, forIn l acc f = (pure cl : Sem _) /\ (∀ x c, (x, c) ∈ cl -> (x, c) ∈ acc ∨ env.cells.lookup x = some c) /\ (∀ y ∈ l, y.2 = .free -> ∃ c, (y.1, c) ∈ cl) /\ ∀ z ∈ acc, z ∈ cl
 | [], acc, _ => ⟨acc, by rw [List.forIn_nil], fun ζ ζ h => .inl h, fun ζ h => (by cases h), fun ζ h => h⟩
 | (n, k) :: r, acc, h => by
  erw [List.forIn_cons, hf]
  by_cases hk : (k == NameKind.free) = true
  ·erw [if_pos hk]
   refine xE (h (n, k) List.mem_cons_self (beq_iff_eq.mp hk)) fun c hc => ?_
   refine b9l (a3l f hf r ((n, c) :: acc) fun y hy => h y (List.mem_cons_of_mem _ hy)) fun cl h1 h2 h3 h4 => ?_
   refine ⟨cl, ?_, fun x c' hx => ?_, fun y hy hyk => ?_, fun z hz => h4 z (List.mem_cons_of_mem _ hz)⟩
   ·unfold cellOf; erw [hc]; simp only [pure_bind]; exact h1
   ·rcases h2 x c' hx with hx | hx
    ·rcases List.mem_cons.mp hx with e | hx
     ·cases e; exact .inr hc
     ·exact .inl hx
    ·exact .inr hx
   ·rcases List.mem_cons.mp hy with rfl | hy
    ·exact ⟨c, h4 _ List.mem_cons_self⟩
    ·exact h3 y hy hyk
  ·erw [if_neg hk]
   refine b9l (a3l f hf r acc fun y hy => h y (List.mem_cons_of_mem _ hy)) fun cl h1 h2 h3 h4 => ?_
   refine ⟨cl, by simp only [pure_bind]; exact h1, h2, fun y hy hyk => ?_, h4⟩
   rcases List.mem_cons.mp hy with rfl | hy
   ·exact absurd (beq_iff_eq.mpr hyk) hk
   ·exact h3 y hy hyk
theorem a5l {α : Type} : ∀ {l : List (Str × α)} {x : Str} {c : α}, (x, c) ∈ l -> ∃ c', l.lookup x = some c'
 | (y, d) :: r, x, c, h => by
  rw [List.lookup_cons]
  cases hx : x == y with
  | true => exact ⟨d, rfl⟩
  | false =>
   rcases List.mem_cons.mp h with e | h
   ·cases e; simp at hx
   ·exact a5l h
theorem b8n {env : Env} {scope : Scope} (h : ∀ y ∈ scope.names, y.2 = .free -> ∃ c, env.cells.lookup y.1 = some c) :
  ∃ cl, closureFor scope env = pure cl /\ (∀ x c, cl.lookup x = some c -> env.cells.lookup x = some c) /\ (∀ y ∈ scope.names, y.2 = .free -> ∃ c, cl.lookup y.1 = some c) := by
 refine b9l (a3l (env := env) (fun x cs => if x.2 == .free then (do let a ← cellOf env x.1; pure (.yield ((x.1, a) :: cs))) else pure (.yield cs)) (fun ζ ζ ζ => rfl) scope.names [] h) fun cl h1 h2 h3 ζ => ?_
 refine ⟨cl, ?_, fun x c e => (h2 x c (mem_of_lookup e)).elim (fun h => by cases h) id, fun y hy hk => ?_⟩
 ·unfold closureFor
  have : ∀ (l : List (Str × NameKind)) (acc : List (Str × Addr)), (forIn l acc fun (x : Str × NameKind) (r : List (Str × Addr)) => (if x.2 == .free then (do let a ← cellOf env x.1; pure (.yield ((x.1, a) :: r))) else pure (.yield r) : Sem _)) = forIn l acc fun x cs => if x.2 == .free then (do let a ← cellOf env x.1; pure (.yield ((x.1, a) :: cs))) else pure (.yield cs) := fun ζ ζ => rfl
  simp only [bind_pure]
  first
   | exact h1
   | (refine Eq.trans ?_ h1; congr 1; funext x r; obtain ⟨n, kd⟩ := x; cases hkd : kd == NameKind.free <;> simp [hkd])
 ·obtain ⟨c, hc⟩ := h3 y hy hk
  exact a5l hc
end Mine
end
section
open PySem PyProof.Rows PySem.SeqAt
namespace Mine
section
variable {prog : Program} {w : World} {A : Around} {s : Shared} {R : Result -> Shared -> Prop}
theorem a4f {elt target iter : Expr} {ifs : List Expr} {scope : Scope} {pos : Pos} {it acc : Value} {env : Env} (I : Nat -> Shared -> Prop)
  (turn : ∀ n s, I n s -> wpAny (model prog w) A (pyNext it) (fun r s₁ => match r with
   | none => R (.ok .next) s₁
   | some v => wpAny (model prog w) A (letOwnedTupleGo target it v) (fun ζ s₁' => wpAny (model prog w) A (assign target env v) (fun ζ s₂ =>
     wpAny (model prog w) A (forIn ifs true fun c r => if r = true then do let ok ← isTrue c env (eval c env); pure (ForInStep.yield ok) else pure (ForInStep.yield r)) (fun ok s₃ =>
      if ok = true then wpAny (model prog w) A (eval elt env) (fun x s₄ =>
       wpAny (model prog w) A (call (.builtin "list.append") [acc, x]) (fun ζ s5 => ∃ m, m < n /\ I m s5) (fun ζ ζ => False) s₄) (fun ζ ζ => False) s₃
      else ∃ m, m < n /\ I m s₃) (fun ζ ζ => False) s₂) (fun ζ ζ => False) s₁') (fun ζ ζ => False) s₁) (fun ζ ζ => False) s)
  (n : Nat) (h : I n s) :
  codeAny (model prog w) A (.compLoop (.ListComp elt [⟨target, iter, ifs, 0⟩] scope pos) 0 it acc env) R s := by
 refine codeAny_loop rfl I (fun n s hI => ?_) n h
 show wpAny _ A ((compTurn (.ListComp elt [⟨target, iter, ifs, 0⟩] scope pos) 0 it acc env).onRaise (fun x => do noteFrame x env; theTreesLotGoes x)) _ _ s
 refine wpAny_noted ?_
 erw [compTurn_list]
 refine wpAny_bind (wpAny_standAt (wpAny_bind (wpAny_mono (turn n s hI) (fun r s₁ h₁ => ?_) fun ζ ζ h' => h'.elim)))
 cases r with
 | none => exact wpAny_pure h₁
 | some v =>
  refine wpAny_bind (wpAny_mono h₁ (fun ζ s₁' h₁' => ?_) fun ζ ζ h' => h'.elim)
  refine wpAny_bind (wpAny_mono h₁' (fun ζ s₂ h₂ => wpAny_bind (wpAny_mono h₂ (fun ok s₃ h₃ => ?_) fun ζ ζ h' => h'.elim)) fun ζ ζ h' => h'.elim)
  cases ok with
  | false => exact wpAny_pure ⟨rfl, h₃⟩
  | true =>
   exact wpAny_bind (wpAny_bind (wpAny_mono h₃ (fun x s₄ h₄ => wpAny_bind (wpAny_mono h₄ (fun ζ s5 h₅ => wpAny_pure (wpAny_pure ⟨rfl, h₅⟩)) fun ζ ζ h' => h'.elim)) fun ζ ζ h' => h'.elim))
end
section
variable {W : World0} {k : Nat} {A : Around} {s s' s'' : Shared} {F : Addr -> Prop} {sc : Scope}
variable {gl : Str -> Option Value} {X Y : Cx} {names : List Str} {ρ ρ' : List (Option V)} {σ σ' σ'' : List O} {Λ Λ' Λ'' : Addr -> Prop} {ad ad' ad'' : List Addr}
theorem St.pokeL (S : St gl X names ρ σ Λ ad s) {z : Addr} (hΛ : Λ z) (hA : z ∉ ad) (hL : z ≠ X.env.locals) (hT : ∀ vs n, s.heap.get? z ≠ some (TO vs n)) (hC : ∀ v, ¬ s.heap.IsCell z v) {h' : Heap} {t : Nat} (hk : ∀ b, b ≠ z -> h'.get? b = s.heap.get? b) (hex : ∃ o, h'.get? z = some o) :
  St gl X names ρ σ Λ ad { s with heap := h', toks := t } /\ Keep Λ Λ s.heap h' := by
 have K : Keep Λ Λ s.heap h' := ⟨fun a vs n e => by erw [hk a fun h => by subst h; exact hT _ _ e]; exact e, fun a o nl d e => by erw [hk a fun h => nl (h ▸ hΛ)]; exact e, fun ζ ζ n ζ ζ => n⟩
 have dom : ∀ a o, s.heap.get? a = some o -> ∃ o', h'.get? a = some o' := fun a o e => by
  by_cases h : a = z
  ·subst h; exact hex
  ·erw [hk a h]; exact ⟨o, e⟩
 refine ⟨⟨fun b o e => ?_, S.os, S.gens, S.new, fun a l => ?_, S.phi, S.nd, S.len, fun a ha => ?_, fun j a o e1 e2 e3 => ?_, S.locL, S.locA, S.cellN, S.rl, ?_⟩, K⟩
 ·show h'.get? b = some o
  rw [hk b fun h => by subst h; rw [S.new b hΛ] at e; exact dNS e]; exact S.keep b o e
 ·obtain ⟨o, e⟩ := S.lt a l; exact dom a o e
 ·obtain ⟨o, e⟩ := S.adl a ha; exact dom a o e
 ·obtain ⟨h1, h2⟩ := S.objs j a o e1 e2 e3
  exact ⟨h1, h2.keep K (fun ζ ζ e => e) fun ob e => by show h'.get? a = some ob; erw [hk a fun h => hA (h ▸ a0g e1)]; exact e⟩
 ·refine a0u S.vars fun m cm hn hc hv => ?_
  refine ⟨m, cm, ?_, fun x c e => ?_, fun x i val e1 e2 => ⟨fun h => ?_, fun h => ?_⟩⟩
  ·obtain ⟨o, es, ep, e, r⟩ := hn
   exact ⟨o, es, ep, by show h'.get? _ = _; erw [hk _ (Ne.symm hL)]; exact e, r⟩
  ·have hcc := hc x c e
   obtain ⟨o, e', d⟩ := hc x c e
   exact ⟨o, by show h'.get? _ = _; rw [hk _ fun h => by subst h; exact hC _ hcc]; exact e', d⟩
  ·refine xEA ((hv x i val e1 e2).1 h) fun v g1 g2 => ?_; exact ⟨v, g1, g2.keep K fun ζ ζ e => e⟩
  ·refine a0u ((hv x i val e1 e2).2 h) fun c v g0 g1 g2 => ?_; exact ⟨c, v, g0, g1, g2.keep K fun ζ ζ e => e⟩
theorem St.drop (S : St gl X names ρ σ Λ ad s) {z : Addr} (hΛ : Λ z) (hA : z ∉ ad) (hL : z ≠ X.env.locals) (hT : ∀ vs n, s.heap.get? z ≠ some (TO vs n)) (hC : ∀ v, ¬ s.heap.IsCell z v) {h' : Heap} {t : Nat} (hk : ∀ b, b ≠ z -> h'.get? b = s.heap.get? b) :
  St gl X names ρ σ (fun b => Λ b /\ b ≠ z) ad { s with heap := h', toks := t } /\ Keep Λ (fun b => Λ b /\ b ≠ z) s.heap h' := by
 have K : Keep Λ (fun b => Λ b /\ b ≠ z) s.heap h' := ⟨fun a vs n e => by erw [hk a fun h => by subst h; exact hT _ _ e]; exact e, fun a o nl d e => by erw [hk a fun h => nl (h ▸ hΛ)]; exact e, fun ζ ζ n ζ ζ h => n h.1⟩
 refine ⟨⟨fun b o e => ?_, S.os, S.gens, fun a l => S.new a l.1, fun a l => ?_, S.phi, S.nd, S.len, fun a ha => ?_, fun j a o e1 e2 e3 => ?_, ⟨S.locL, Ne.symm hL⟩, S.locA, S.cellN, S.rl, ?_⟩, K⟩
 ·show h'.get? b = some o
  rw [hk b fun h => by subst h; rw [S.new b hΛ] at e; exact dNS e]; exact S.keep b o e
 ·obtain ⟨o, e⟩ := S.lt a l.1; exact ⟨o, by show h'.get? a = _; erw [hk a l.2]; exact e⟩
 ·obtain ⟨o, e⟩ := S.adl a ha; exact ⟨o, by show h'.get? a = _; erw [hk a fun h => hA (h ▸ ha)]; exact e⟩
 ·obtain ⟨h1, h2⟩ := S.objs j a o e1 e2 e3
  have hne : a ≠ z := fun h => hA (h ▸ a0g e1)
  exact ⟨⟨h1, hne⟩, h2.keep K (fun ζ ζ e => e) fun ob e => by show h'.get? a = some ob; erw [hk a hne]; exact e⟩
 ·refine a0u S.vars fun m cm hn hc hv => ?_
  refine ⟨m, cm, ?_, fun x c e => ?_, fun x i val e1 e2 => ⟨fun h => ?_, fun h => ?_⟩⟩
  ·obtain ⟨o, es, ep, e, r⟩ := hn
   exact ⟨o, es, ep, by show h'.get? _ = _; erw [hk _ (Ne.symm hL)]; exact e, r⟩
  ·have hcc := hc x c e
   obtain ⟨o, e', d⟩ := hc x c e
   exact ⟨o, by show h'.get? _ = _; rw [hk _ fun h => by subst h; exact hC _ hcc]; exact e', d⟩
  ·refine xEA ((hv x i val e1 e2).1 h) fun v g1 g2 => ?_; exact ⟨v, g1, g2.keep K fun ζ ζ e => e⟩
  ·refine a0u ((hv x i val e1 e2).2 h) fun c v g0 g1 g2 => ?_; exact ⟨c, v, g0, g1, g2.keep K fun ζ ζ e => e⟩
end
end Mine
end
section
open PySem PyProof.Rows PySem.SeqAt
namespace Mine
theorem b6w : ∀ {l : List Str} {x : Str}, x ∉ l -> vis l x = none
 | [], _, _ => rfl
 | y :: ys, x, h => by
  simp only [List.mem_cons, not_or] at h
  unfold vis; erw [b6w h.2]; simp [h.1]
theorem b0v (y : Str) (ys : List Str) (x : Str) : vis (y :: ys) x = match vis ys x with | some i => some (i + 1) | none => if x == y then some 0 else none := rfl
theorem b5c : ∀ (a b : List Str) (x : Str), vis (a ++ b) x = match vis b x with | some j => some (a.length + j) | none => vis a x
 | [], b, x => by cases h : vis b x <;> simp [h, vis]
 | y :: a, b, x => by
  erw [List.cons_append, b0v, b5c a b x]
  cases h : vis b x with
  | some j => simp only [List.length_cons]; congr 1; exact om17
  | none => simp only; erw [b0v]
theorem c7m (l r : List Str) (x : Str) (h : x ∉ r) : vis (l ++ x :: r) x = some l.length := by
 erw [b5c]
 have : vis (x :: r) x = some 0 := by unfold vis; erw [b6w h]; simp
 erw [this]; simp
noncomputable def idx (n : Nat) : Nat -> List Nat
 | 0 => []
 | k + 1 => n :: idx (n + 1) k
theorem b8o (k : Nat) : ∀ n : Nat, (idx n k).length = k := by
 induction k with
 | zero => exact fun ζ => rfl
 | succ k ih => exact fun n => congrArg Nat.succ (ih (n + 1))
theorem b5d {l : List V} : ∀ {a t : List (Option V)}, t.length = l.length -> a2d (a ++ t) (idx a.length l.length) l = a ++ l.map some := by
 induction l with
 | nil => intro a t h; erw [List.length_eq_zero_iff.mp h]; rfl
 | cons x l ih =>
  intro a t h
  cases t with
  | nil => cases h
  | cons y t =>
   show a2d ((a ++ y :: t).set a.length (some x)) (idx (a.length + 1) l.length) l = a ++ some x :: l.map some
   have e : (a ++ y :: t).set a.length (some x) = (a ++ [some x]) ++ t := by simp
   have k := ih (a := a ++ [some x]) (Nat.succ.inj h)
   rw [List.length_append] at k
   erw [e]
   exact k.trans (List.append_cons a (some x) (l.map some)).symm
theorem c9k : ∀ ts : List Expr, (a0k ts).length <= ts.length
 | [] => Nat.le_refl _
 | a :: b => by
  cases a with
  | Name x p => exact Nat.succ_le_succ (c9k b)
  | _ => exact Nat.le_succ_of_le (c9k b)
theorem tn_no {ts : List Expr} {P : Prop} (h : ts.length + 1 = (a0k ts).length) : P := absurd h (Nat.ne_of_gt (Nat.lt_succ_of_le (c9k ts)))
theorem a9t {sc : Scope} : ∀ {ts : List Expr} {pre : List Str}, ts.length = (a0k ts).length -> (∀ x ∈ a0k ts, sc.names.lookup x = some .local) -> (a0k ts).Nodup ->
  a0s (pre ++ a0k ts) sc (idx pre.length ts.length) ts = true
 | [], pre, _, _, _ => rfl
 | e :: ts, pre, hl, hloc, nd => by
  cases e with
  | Name x p =>
   have hl : ts.length + 1 = (a0k ts).length + 1 := hl
   have hloc : ∀ y ∈ x :: a0k ts, sc.names.lookup y = some .local := hloc
   have nd : (x :: a0k ts).Nodup := nd
   obtain ⟨n1, n2⟩ := List.nodup_cons.mp nd
   have ih := a9t (sc := sc) (ts := ts) (pre := pre ++ [x]) (Nat.succ.inj hl) (fun y hy => hloc y (List.mem_cons_of_mem _ hy)) n2
   show (a1l (pre ++ x :: a0k ts) sc pre.length x && a0s (pre ++ x :: a0k ts) sc (idx (pre.length + 1) ts.length) ts) = true
   erw [Bool.and_eq_true]
   refine ⟨?_, by simpa using ih⟩
   unfold a1l
   erw [hloc x List.mem_cons_self, c7m _ _ _ n1]; simp
  | _ => exact tn_no hl
noncomputable def b0w (ρ : List (Option V)) (σ : List O) (one : Bool) (kk : Nat) (x : V) : Option (List (Option V)) :=
 if one then some (ρ ++ [some x]) else bTup (seqV σ x) fun l => if l.length = kk then some (ρ ++ l.map some) else none
noncomputable def b0x (W : World0) (k : Nat) (elt : CE) (cond : Option CE) (ρ : List (Option V)) (σ : List O) (one : Bool) (kk : Nat) (x : V) (Y : Option D -> Prop) : Prop :=
 ∃ ρx, b0w ρ σ one kk x = some ρx /\ match cond with
  | none => TE W k elt ρx σ fun v σ2 => σ2 = σ /\ ∃ z, v = .d z /\ Y (some z)
  | some c => TC W k c ρx σ fun b σ2 => σ2 = σ /\ if b then TE W k elt ρx σ (fun v σ3 => σ3 = σ /\ ∃ z, v = .d z /\ Y (some z)) else Y none
structure CmpT (names : List Str) (sc csc : Scope) (one : Bool) (kk : Nat) (tg : Expr) (tn : List Str) : Prop where
 len : tn.length = kk
 tgt : a3d (names ++ tn) csc one (idx names.length kk) tg = true
 kind : csc.kind = .function
 nocell : ∀ y ∈ csc.names, y.2 ≠ .cell
 lcl : ∀ y ∈ csc.names, y.2 = .local -> csc.names.lookup y.1 = some .local
 only : ∀ y ∈ csc.names, y.2 = .local -> y.1 ∈ tn ∨ y.1 ∉ names
 free : ∀ y ∈ csc.names, y.2 = .free -> sc.names.lookup y.1 = some .cell ∨ sc.names.lookup y.1 = some .free
 one1 : one = true -> kk = 1
theorem okN {names : List Str} {sc csc : Scope} {tn : List Str} {y : Str × NameKind} (h : c7e names sc csc tn y = true) :
  y.2 ≠ .cell /\ (y.2 = .local -> csc.names.lookup y.1 = some .local /\ (y.1 ∈ tn ∨ y.1 ∉ names)) /\ (y.2 = .free -> sc.names.lookup y.1 = some .cell ∨ sc.names.lookup y.1 = some .free) := by
 obtain ⟨x, kd⟩ := y
 cases kd with
 | cell => exact ff h
 | «local» =>
  have h := Bool.and_eq_true_iff.mp h
  refine ⟨nofun, fun ζ => ⟨beq_iff_eq.mp h.1, (Bool.or_eq_true_iff.mp h.2).imp List.contains_iff_mem.mp fun h m => ?_⟩, nofun⟩
  rw [List.contains_iff_mem.mpr m] at h; exact ff h
 | free => exact ⟨nofun, nofun, fun ζ => (Bool.or_eq_true_iff.mp h).imp beq_iff_eq.mp beq_iff_eq.mp⟩
 | _ => exact ⟨nofun, nofun, nofun⟩
theorem cmp_ok {names : List Str} {sc csc : Scope} {kk : Nat} {one : Bool} {tg : Expr} (h : c4c names sc csc one kk tg = true) : CmpT names sc csc one kk tg (a1o tg) := by
 obtain ⟨h, h4⟩ := Bool.and_eq_true_iff.mp h
 obtain ⟨h, h3⟩ := Bool.and_eq_true_iff.mp h
 obtain ⟨h1, h2⟩ := Bool.and_eq_true_iff.mp h
 have ok := fun y hy => okN (List.all_eq_true.mp h2 y hy)
 have hk := beq_iff_eq.mp (Bool.and_eq_true_iff.mp (Bool.and_eq_true_iff.mp h1).1).1
 have key : a3d (names ++ a1o tg) csc one (idx names.length kk) tg = true /\ (one = true -> kk = 1) := by
  have hl := beq_iff_eq.mp h3
  clear h1 h2 h3 ok h hk
  revert hl
  cases one with
  | true =>
   apply a2g h4; intro x p h _
   have h := Bool.and_eq_true_iff.mp h
   obtain rfl := beq_iff_eq.mp h.1
   refine ⟨?_, fun ζ => rfl⟩
   show a1l (names ++ [x]) csc names.length x = true
   unfold a1l
   erw [beq_iff_eq.mp h.2, c7m _ _ _ List.not_mem_nil]; simp
  | false =>
   apply a3j h4; intro ts a b h hl
   obtain ⟨h, nd⟩ := Bool.and_eq_true_iff.mp h
   obtain ⟨hl1, hloc⟩ := Bool.and_eq_true_iff.mp h
   obtain rfl := beq_iff_eq.mp hl1
   exact ⟨a9t (sc := csc) (ts := ts) (pre := names) hl.symm (fun x hx => beq_iff_eq.mp (List.all_eq_true.mp hloc x hx)) (of_decide_eq_true nd), nofun⟩
 exact ⟨beq_iff_eq.mp h3, key.1, hk, fun y hy => (ok y hy).1, fun y hy hl => ((ok y hy).2.1 hl).1, fun y hy hl => ((ok y hy).2.1 hl).2, fun y hy => (ok y hy).2.2, key.2⟩
theorem a9u {names : List Str} {sc : Scope} {elt iter : CE} {kk : Nat} {one : Bool} {cond : Option CE} {E : Expr} (h : isE names sc (.comp elt kk one iter cond) E = true) :
  ∃ el tg it ifs csc pos tn, E = .ListComp el [⟨tg, it, ifs, 0⟩] csc pos /\ CmpT names sc csc one kk tg tn /\ isE names sc iter it = true /\ isE (names ++ tn) csc elt el = true /\ isEc (names ++ tn) csc cond ifs = true := by
 refine c3z (c4s h) fun el tg it ifs csc pos e h => ?_
 have h := Bool.and_eq_true_iff.mp h
 have h' := Bool.and_eq_true_iff.mp h.1
 have h'' := Bool.and_eq_true_iff.mp h'.1
 exact ⟨el, tg, it, ifs, csc, pos, a1o tg, e, cmp_ok h''.1, h''.2, h'.2, h.2⟩
end Mine
end
section
open PySem PyProof.Rows PySem.SeqAt
namespace Mine
section
variable {W : World0} {k : Nat} {A : Around} {s s' s'' : Shared} {F : Addr -> Prop} {sc csc : Scope}
variable {gl : Str -> Option Value} {X : Cx} {names : List Str} {ρ ρ' : List (Option V)} {σ σ' σ'' : List O} {Λ Λ' Λ'' : Addr -> Prop} {ad ad' ad'' : List Addr}
variable {one : Bool} {kk : Nat} {tg : Expr} {tn : List Str} {cl : List (Str × Addr)} {C : Addr}
theorem a5m (T : CmpT names sc csc one kk tg tn) (x : Str) : (compEnvC csc cl C X.env).kindOf x = (csc.names.lookup x).map fun k => if (k == NameKind.free && X.env.scope.kind == .function && X.env.kindOf x == some .cell) then NameKind.cell else k := a4k _ _
theorem b0y (T : CmpT names sc csc one kk tg tn) {x : Str} (h : (compEnvC csc cl C X.env).kindOf x = some .cell ∨ (compEnvC csc cl C X.env).kindOf x = some .free) : csc.names.lookup x = some .free := by
 rw [a5m T] at h
 cases e : csc.names.lookup x with
 | none => rw [e] at h; rcases h with h | h <;> exact dNS h
 | some kd =>
  have hm := mem_of_lookup e
  rw [e] at h
  simp only [Option.map_some, Option.some.injEq] at h
  cases kd with
  | free => rfl
  | cell => exact absurd rfl (T.nocell _ hm)
  | _ => rcases h with h | h <;> simp at h
theorem c1e (T : CmpT names sc csc one kk tg tn) (hk : KindsOk X.env sc) (hcl : ∀ y ∈ csc.names, y.2 = .free -> ∃ c, cl.lookup y.1 = some c) : KindsOk (compEnvC csc cl C X.env) csc where
 kind := T.kind
 glob := hk.glob
 blt := hk.blt
 loc := fun x h => lookup_relabel_local h
 cel := fun x h => by
  erw [a5m T]
  rcases h with h | h
  ·exact absurd rfl (T.nocell _ (mem_of_lookup h))
  ·erw [h]; simp only [Option.map_some, Option.some.injEq]; split
   ·exact .inl rfl
   ·exact .inr rfl
 glo := fun x h => by erw [a5m T, h]; rfl
 apart := fun ⟨x, h⟩ => absurd rfl (T.nocell _ (mem_of_lookup h))
 celE := fun x h => hcl _ (mem_of_lookup (b0y T h)) rfl
 celS := fun x h => absurd rfl (T.nocell _ (mem_of_lookup h))
noncomputable def cmpX (X : Cx) (csc : Scope) (cl : List (Str × Addr)) (C : Addr) : Cx := { X with env := compEnvC csc cl C X.env }
set_option tactic.hygienic true in
theorem c1f (T : CmpT names sc csc one kk tg tn) (hk : KindsOk X.env sc) (S : St W.gl X names ρ σ Λ ad s) (hcl : ∀ x c, cl.lookup x = some c -> X.env.cells.lookup x = some c) (hcl2 : ∀ y ∈ csc.names, y.2 = .free -> ∃ c, cl.lookup y.1 = some c) {D C : Addr} (hD : s.heap.get? D = none) (hC : s.heap.get? C = none) (hDC : D ≠ C) {s' : Shared} {m : Str -> Option Value}
  (kp : ∀ b o, s.heap.get? b = some o -> s'.heap.get? b = some o) (ho : s'.os = s.os) (hg : s'.gens = s.gens) (hn : s'.heap.Ns C m) (hd : ∃ o, s'.heap.get? D = some o) :
  St W.gl (cmpX X csc cl C) (names ++ tn) (ρ ++ List.replicate kk none) σ (fun b => Λ b ∨ b = C ∨ b = D) ad s' /\ Step (fun ζ => False) σ ad Λ s.heap σ ad (fun b => Λ b ∨ b = C ∨ b = D) s'.heap := by
 have K : Keep Λ (fun b => Λ b ∨ b = C ∨ b = D) s.heap s'.heap := ⟨fun a vs n e => kp _ _ e, fun a o ζ ζ e => kp a o e, fun a o nl ζ e h => by
  rcases h with h | rfl | rfl
  ·exact nl h
  ·exact dGN hC e
  ·exact dGN hD e⟩
 have hnew : ∀ z, s.heap.get? z = none -> X.hB.get? z = none := fun z hz => by
  cases e : X.hB.get? z with
  | none => rfl
  | some o => rw [S.keep z o e] at hz; exact dSN hz
 have hCo : ∃ o, s'.heap.get? C = some o := let ⟨o, _, _, e, _⟩ := hn; ⟨o, e⟩
 refine ⟨⟨fun b o e => kp b o (S.keep b o e), ho.trans S.os, hg.trans S.gens, fun a l => ?_, fun a l => ?_, S.phi, S.nd, S.len, fun a ha => ?_, fun i a o e1 e2 e3 => ?_, .inr (.inl rfl), fun h => ?_, fun x c h1 h2 => ?_, ?_, ?_⟩, ?_⟩
 ·rcases l with l | rfl | rfl
  ·exact S.new a l
  ·exact hnew _ hC
  ·exact hnew _ hD
 ·rcases l with l | rfl | rfl
  ·obtain ⟨o, e⟩ := S.lt a l; exact ⟨o, kp a o e⟩
  ·exact hCo
  ·exact hd
 ·obtain ⟨o, e⟩ := S.adl a ha; exact ⟨o, kp a o e⟩
 ·obtain ⟨h1, h2⟩ := S.objs i a o e1 e2 e3
  exact ⟨.inl h1, h2.keep K (fun ζ ζ e => e) fun ob e => kp a ob e⟩
 ·obtain ⟨o, e⟩ := S.adl _ h
  have : s.heap.get? C = some o := e
  exact dGN hC this
 ·have hf := b0y T (.inl h1)
  have : X.env.kindOf x = some .cell := by
   have h1' : (compEnvC csc cl C X.env).kindOf x = some .cell := h1
   rw [a5m T, hf] at h1'
   simp only [Option.map_some, Option.some.injEq] at h1'
   split at h1'
   ·rename_i hh; simp only [Bool.and_eq_true, beq_iff_eq] at hh; exact hh.2
   ·cases h1'
  exact S.cellN x c this (hcl x c h2)
 ·simp [S.rl, T.len]
 ·refine a0u S.vars fun m₀ cm hn₀ hc hv => ?_
  refine ⟨m, cm, hn, fun x c e => ?_, fun x i val e1 e2 => ?_⟩
  ·obtain ⟨o, e', d⟩ := hc x c (hcl x c e); exact ⟨o, kp _ _ e', d⟩
  ·have hlt : i < ρ.length := by
    rcases Nat.lt_or_ge i ρ.length with h | h
    ·exact h
    ·rw [List.getElem?_append_right h, List.getElem?_replicate] at e2
     split at e2 <;> simp at e2
   rw [List.getElem?_append_left hlt] at e2
   have hv' : vis names x = some i /\ x ∉ tn := by
    rw [b5c] at e1
    cases e : vis tn x with
    | some j =>
     rw [e] at e1
     simp only [Option.some.injEq] at e1
     rw [S.rl] at hlt; omega
    | none =>
     rw [e] at e1
     refine ⟨e1, fun hm => ?_⟩
     have : ∀ {l : List Str}, x ∈ l -> vis l x ≠ none := by
      intro l
      induction l with
      | nil => intro h; cases h
      | cons y ys ih =>
       intro h
       erw [b0v]
       rcases List.mem_cons.mp h with rfl | h
       ·cases h2 : vis ys x <;> simp
       ·cases h2 : vis ys x with
        | none => exact absurd h2 (ih h)
        | some j => simp
     exact this hm e
   refine ⟨fun h => ?_, fun h => ?_⟩
   ·have h' : (compEnvC csc cl C X.env).kindOf x = some .local := h
    rw [a5m T] at h'
    cases e : csc.names.lookup x with
    | none => rw [e] at h'; exact dNS h'
    | some kd =>
     rw [e] at h'
     simp only [Option.map_some, Option.some.injEq] at h'
     have hkd : kd = .local := by
      split at h'
      ·cases h'
      ·exact h'
     subst hkd
     rcases T.only _ (mem_of_lookup e) rfl with h | h
     ·exact absurd h hv'.2
     ·exact absurd (List.mem_of_getElem? (a7z hv'.1)) h
   ·have hf := b0y T h
    have hsc := T.free _ (mem_of_lookup hf) rfl
    refine a0u ((hv x i val hv'.1 e2).2 (hk.cel x hsc)) fun c v g0 g1 g2 => ?_
    obtain ⟨c', hc'⟩ := hcl2 _ (mem_of_lookup hf) rfl
    have := hcl x c' hc'
    rw [g0] at this; cases this
    exact ⟨c, v, hc', g1, g2.keep K fun ζ ζ e => e⟩
 ·exact ⟨fun a o ζ ζ e => kp a o e, fun a o e => ⟨o, kp a o e⟩, fun a l => by
   rcases l with l | rfl | rfl
   ·exact .inl l
   ·exact .inr hC
   ·exact .inr hD, fun ζ ζ e => e, fun ζ l => .inl l, fun ζ l => .inl l, fun ζ ζ ζ l ζ => .inl l⟩
theorem c1g {t : List (Option V)} {x : V} {ρx : List (Option V)} (hrl : ρ.length = names.length) (ht : t.length = kk) (h1 : one = true -> kk = 1) (e : b0w ρ σ one kk x = some ρx) :
  c0w (ρ ++ t) σ one (idx names.length kk) x = some ρx /\ ∃ t', ρx = ρ ++ t' /\ t'.length = kk := by
 cases one with
 | true =>
  obtain rfl := h1 rfl
  obtain rfl := a0l (show some (ρ ++ [some x]) = some ρx from e)
  refine ⟨?_, [some x], rfl, rfl⟩
  cases t with
  | nil => cases ht
  | cons y t =>
   obtain rfl : t = [] := List.length_eq_zero_iff.mp (Nat.succ.inj ht)
   show some ((ρ ++ [y]).set names.length (some x)) = some (ρ ++ [some x])
   erw [← hrl]; simp
 | false =>
  refine xEA (b3a (o := seqV σ x) e) fun l heq e => ?_
  obtain ⟨hl, rfl⟩ := a2n e
  refine ⟨?_, l.map some, rfl, by erw [List.length_map]; exact hl⟩
  show bTup (seqV σ x) _ = _
  erw [heq]
  refine (if_pos (hl.trans (b8o kk _).symm)).trans (congrArg some ?_)
  erw [← hrl, ← hl]; exact b5d (ht.trans hl.symm)
theorem gne {h : Heap} {a b : Addr} {o : Obj} (hn : h.get? a = none) (e : h.get? b = some o) : b ≠ a := fun q => cGN hn (q ▸ e)
theorem Step.poke {exc : Addr -> Prop} {h h₁ h₂ : Heap} (P : Step exc σ ad Λ h σ' ad' Λ' h₁) {I : Addr} (hI : h.get? I = none) (hk : ∀ b o, b ≠ I -> h₁.get? b = some o -> h₂.get? b = some o) : Step exc σ ad Λ h σ' ad' Λ' h₂ :=
 ⟨fun a o nl ne e => hk a o (gne hI e) (P.only a o nl ne e), fun a o e => (P.dom a o e).elim fun o' e' => ⟨o', hk a o' (gne hI e) e'⟩, P.lamO, P.pre, P.liv, P.adO, P.res⟩
theorem Step.past {exc : Addr -> Prop} {h h₁ h₂ : Heap} (P : Step (fun ζ => False) σ ad Λ h σ' ad' Λ' h₁) (R : Step exc σ' ad' Λ' h₁ σ'' ad'' Λ'' h₂) (hx : ∀ a, exc a -> h.get? a = none) : Step (fun ζ => False) σ ad Λ h σ'' ad'' Λ'' h₂ :=
 ⟨fun a o nl ne e => R.only a o (fun l => (P.liv a l).elim nl fun l' => cGN l' e) (fun l => cGN (hx a l) e) (P.only a o nl ne e), fun a o e => (P.dom a o e).elim fun o' e' => R.dom a o' e',
  fun a l => (R.lamO a l).elim (P.lamO a) fun l' => .inr (a1z P.dom l'), fun i a e => R.pre i a (P.pre i a e), fun a l => (R.liv a l).elim (P.liv a) fun l' => .inr (a1z P.dom l'),
  fun a l => (R.adO a l).elim (P.adO a) fun l' => .inr (a1z P.dom l'), fun a o e l nl => (P.dom a o e).elim fun o' e' => R.res a o' e' (P.res a o e l nl) fun l' => (P.liv a l').elim nl fun l'' => cGN l'' e⟩
theorem a7i {h : Heap} {c : Addr} {o o' : Obj} {v : Option Value} (e : h.get? c = some o) (e' : h.get? c = some o') (d : o.data = .cell v) : o'.data = .cell v := a0l (e.symm.trans e') ▸ d
theorem b3b (S : St gl X names ρ σ Λ ad s) {c : Addr} {o : Obj} {v : Option Value} (l : a3g σ ad c) (e : s.heap.get? c = some o) (d : o.data = .cell v) : False := by
 obtain ⟨i, o', e1, e2, e3⟩ := l
 have h2 := (S.objs i c o' e1 e2 e3).2
 cases o' with
 | lst l => exact h2.elim fun ζ h => h.elim fun ζ h => nomatch a7i e h.1 d
 | dI l => exact h2.elim fun ζ h => h.elim fun ζ h => nomatch a7i e h.1 d
 | dT l => exact h2.elim fun ζ h => h.elim fun ζ h => nomatch a7i e h.1 d
 | lstV l => exact h2.elim fun ζ h => h.elim fun ζ h => nomatch a7i e h.1 d
 | dead => exact e3 rfl
theorem VRels.append {gl : Str -> Option Value} {h : Heap} {Λ Φ : Addr -> Prop} {ad : List Addr} {vs ws : List Value} {l m : List V} (a : VRels gl h Λ Φ ad vs l) (b : VRels gl h Λ Φ ad ws m) : VRels gl h Λ Φ ad (vs ++ ws) (l ++ m) :=
 VRels.ind (M := fun vs l => VRels gl h Λ Φ ad (vs ++ ws) (l ++ m)) b (fun r ζ ih => .cons r ih) a
theorem St.outerV {Y : Cx} (S1 : St gl X names ρ σ Λ ad s) {names' : List Str} (S2 : St gl Y names' ρ' σ' Λ' ad' s') (hB : Y.hB = X.hB) (ho : Y.os = X.os) (hg : Y.gens = X.gens) (hΦ : Y.Φ = X.Φ) (P : Step (fun ζ => False) σ ad Λ s.heap σ' ad' Λ' s'.heap) : St gl X names ρ σ' Λ' ad' s' := by
 refine a0u S1.vars fun m cm hn hc hv => ?_
 obtain ⟨oL, es, ep, eL, r⟩ := id hn
 have nlive : ¬ a3g σ ad X.env.locals := fun ⟨i, o, e1, _⟩ => S1.locA (a0g e1)
 have K := (P.weak (exc' := a2e X.env) fun ζ f => f.elim).keepS S1
 refine ⟨fun b o e => S2.keep b o (hB ▸ e), S2.os.trans ho, S2.gens.trans hg, fun a l => hB ▸ S2.new a l, S2.lt, S1.phi, S2.nd, S2.len, S2.adl, fun i a o e1 e2 e3 => hΦ ▸ S2.objs i a o e1 e2 e3, P.res _ _ eL S1.locL nlive, fun h => (P.adO _ h).elim S1.locA fun h => cGN h eL, S1.cellN, S1.rl, m, cm, ⟨oL, es, ep, P.only _ _ nlive (fun f => f) eL, r⟩, fun x c e => ?_, fun x i val e1 e2 => ⟨fun h => ?_, fun h => ?_⟩⟩
 ·obtain ⟨o, e', d⟩ := hc x c e
  exact ⟨o, P.only c o (fun l => b3b S1 l e' d) (fun f => f) e', d⟩
 ·refine xEA ((hv x i val e1 e2).1 h) fun v g1 g2 => ?_; exact ⟨v, g1, g2.keep K P.pre⟩
 ·refine a0u ((hv x i val e1 e2).2 h) fun c v g0 g1 g2 => ?_; exact ⟨c, v, g0, g1, g2.keep K P.pre⟩
theorem St.shed (S : St gl X names ρ σ Λ ad s) {D : Addr} (hA : D ∉ ad) (hL : D ≠ X.env.locals) : St gl X names ρ σ (fun b => Λ b /\ b ≠ D) ad s := by
 have K : Keep Λ (fun b => Λ b /\ b ≠ D) s.heap s.heap := .weak fun ζ h => h.1
 refine a0u S.vars fun m cm hn hc hv => ?_
 refine ⟨S.keep, S.os, S.gens, fun a l => S.new a l.1, fun a l => S.lt a l.1, S.phi, S.nd, S.len, S.adl, fun i a o e1 e2 e3 => ?_, ⟨S.locL, Ne.symm hL⟩, S.locA, S.cellN, S.rl, m, cm, hn, hc, fun x i val e1 e2 => ⟨fun h => ?_, fun h => ?_⟩⟩
 ·obtain ⟨h1, h2⟩ := S.objs i a o e1 e2 e3
  exact ⟨⟨h1, fun h => hA (h ▸ a0g e1)⟩, h2.keep K (fun ζ ζ e => e) fun ζ e => e⟩
 ·refine xEA ((hv x i val e1 e2).1 h) fun v g1 g2 => ?_; exact ⟨v, g1, g2.keep K fun ζ ζ e => e⟩
 ·refine a0u ((hv x i val e1 e2).2 h) fun c v g0 g1 g2 => ?_; exact ⟨c, v, g0, g1, g2.keep K fun ζ ζ e => e⟩
theorem Step.shed {exc : Addr -> Prop} {h h' : Heap} (P : Step exc σ ad Λ h σ' ad' Λ' h') {D : Addr} (hD : h.get? D = none) : Step exc σ ad Λ h σ' ad' (fun b => Λ' b /\ b ≠ D) h' :=
 ⟨P.only, P.dom, fun a l => P.lamO a l.1, P.pre, P.liv, P.adO, fun a o e l nl => ⟨P.res a o e l nl, gne hD e⟩⟩
noncomputable def CItemV (W : World0) (k : Nat) (elt : CE) (cond : Option CE) (ρ : List (Option V)) (σ : List O) (one : Bool) (kk : Nat) (x : V) (Y : V -> List O -> Prop) (N : List O -> Prop) : Prop :=
 ∃ ρx, b0w ρ σ one kk x = some ρx /\ match cond with
  | none => TE W k elt ρx σ Y
  | some c => TC W k c ρx σ fun b σ2 => if b then TE W k elt ρx σ2 Y else N σ2
structure CAt (gl : Str -> Option Value) (Φ : Addr -> Prop) (D I : Addr) (Sg : Heap -> Prop) (ys : List Value) (n : Nat) (vals : List V) (Λc : Addr -> Prop) (ad' : List Addr) (h : Heap) : Prop where
 sg : Sg h
 dL : Λc D
 dA : D ∉ ad'
 iL : ¬ Λc I
 iA : I ∉ ad'
 get : h.get? D = some (LO ys n)
 rel : VRels gl h Λc Φ ad' ys vals
inductive CInv (W : World0) (Y : Cx) (Φ : Addr -> Prop) (nms : List Str) (ρ : List (Option V)) (σ1 : List O) (Λ1 : Addr -> Prop) (ad1 : List Addr) (s₁ : Shared) (D I : Addr) (Sg : Nat -> Heap -> Prop) (kk : Nat) (CI : Nat -> List V -> List O -> Prop) (l : List V) (N : Nat) (cur : Shared) : Prop
 | mk (j : Nat) (tt : List (Option V)) (σc : List O) (Λc : Addr -> Prop) (ad' : List Addr) (ys : List Value) (n : Nat) (vals : List V) (h1 : N = l.length + 1 - j) (h2 : j <= l.length) (h3 : tt.length = kk) (h4 : St W.gl Y nms (ρ ++ tt) σc Λc ad' cur)
  (h5 : Step (fun _ => False) σ1 ad1 Λ1 s₁.heap σc ad' Λc cur.heap) (h6 : CAt W.gl Φ D I (Sg j) ys n vals Λc ad' cur.heap) (h13 : ys.length <= j) (h14 : CI j vals σc) : CInv W Y Φ nms ρ σ1 Λ1 ad1 s₁ D I Sg kk CI l N cur
theorem b8p {a b c : Nat} (h1 : a <= b) (h2 : b < c) (h3 : c <= 16777216) : a + 1 <= 16777216 := by exact om18 h1 h2 h3
theorem b3c {a b : Nat} (h : a < b) : b + 1 - (a + 1) < b + 1 - a := by exact om19 h
theorem c9l {a b : Nat} (h : a <= b) : a <= b + 1 := Nat.le_succ_of_le h
theorem c1h {elt iter : CE} {cond : Option CE} {Qf : List V -> List O -> Prop} {el it : Expr} {ifs : List Expr} {pos pos' : Pos} {use : Option (Value -> Sem Unit)} {QQ : Value -> Shared -> Prop}
  (t : wpAny (model W.p W.w) X.A (eval it X.env) (fun xv s₁ => wpAny (model W.p W.w) X.A (pyIter xv) (PostI W X names ρ σ Λ ad s (fun l σ1 => ∃ CI : Nat -> List V -> List O -> Prop, CI 0 [] σ1 /\ (∀ j x vals σc, l[j]? = some x -> CI j vals σc -> CItemV W k elt cond ρ σc one kk x (fun v σ3 => CI (j + 1) (vals ++ [v]) σ3) (CI (j + 1) vals)) /\ ∀ vals σc, CI l.length vals σc -> Qf vals σc) s₁) (fun ζ ζ => False) s₁) (fun ζ ζ => False) s)
  (T : CmpT names sc csc one kk tg tn) (h2 : isE names sc iter it = true) (h3 : isE (names ++ tn) csc elt el = true) (h4 : isEc (names ++ tn) csc cond ifs = true) (hk : KindsOk X.env sc) (hr : Room X.A k) (hw : W.ok X.hB) (S : St W.gl X names ρ σ Λ ad s)
  (fin : ∀ cur C D Λc ad' ys n vals σc m, St W.gl X names ρ σc Λc ad' cur -> Step (a1d X.env) σ ad Λ s.heap σc ad' Λc cur.heap -> Λc D -> D ∉ ad' -> D ≠ X.env.locals -> s.heap.get? D = none -> cur.heap.get? D = some (LO ys n) -> VRels W.gl cur.heap Λc X.Φ ad' ys vals -> Qf vals σc -> Λc C -> C ∉ ad' -> C ≠ X.env.locals -> C ≠ D -> cur.heap.Ns C m -> s.heap.get? C = none ->
   compPost (model W.p W.w) X.A (fun ζ ζ => False) use QQ (.ref D) C (.ok .next) cur) :
  wpAny (model W.p W.w) X.A (comprehension (.ListComp el [⟨tg, it, ifs, 0⟩] csc pos) csc X.env pos' (newList []) false (eval it X.env) use) QQ (fun ζ ζ => False) s := by
 refine xEAA (b8n (env := X.env) (scope := csc) fun y hy hf => hk.celE y.1 (hk.cel y.1 (T.free y hy hf))) fun cl hclos hcl hcl2 => ?_
 refine wpAny_comprehension_free (g := ⟨tg, it, ifs, 0⟩) (gs := []) rfl (a9r h2 _) hclos T.kind (fun y hy hl => T.lcl y hy hl) (wpAny_mono t (fun xv s₁ h₁ => wpAny_mono h₁ (fun itv s₂ h₂ => ?_) fun ζ ζ f => f) fun ζ ζ f => f)
 obtain ⟨l, σ1, Λ1, ad1, S1, P1, ⟨I, fp, P, Sg, rfl, hI, wk, sg0, hfp, hit, hkeep, hos, hgen, hP⟩, hlen, CI, ci0, hitem, q⟩ := h₂
 refine wpAny_newObj_type (wpAny_newFunctionEnv T.nocell (by intro y hy; simp at hy) (fun h₃ hns3 hsb3 => ?_) T.kind)
 dsimp only at hns3 hsb3 ⊢
 generalize hH2 : s₂.heap.push { cls := .type "list", dict := none, data := .seq ([] : List Value).toArray } = H2 at hns3 hsb3 ⊢
 have hC : H2.objs.size = s₂.heap.objs.size + 1 := by erw [← hH2, Heap.size_push]
 generalize hDd : s₂.heap.objs.size = D at hC ⊢
 generalize hCc : H2.objs.size = C at hC hns3 hsb3 ⊢
 have hDC : D ≠ C := hC ▸ Nat.ne_of_lt (Nat.lt_succ_self D)
 have old2 : ∀ b o, s₂.heap.get? b = some o -> b ≠ D /\ b ≠ C := fun b o e => by
  have h1 : b < D := hDd ▸ Heap.lt_size e
  exact ⟨Nat.ne_of_lt h1, Nat.ne_of_lt (hC ▸ Nat.lt_succ_of_lt h1)⟩
 have kp2 : ∀ b o, s₂.heap.get? b = some o -> h₃.get? b = some o := fun b o e => hsb3.extBut b o (old2 b o e).2 (Heap.get?_push_of_some _ (hH2 ▸ Heap.get?_push_of_some _ e))
 have kp : ∀ b o, s₁.heap.get? b = some o -> h₃.get? b = some o := fun b o e => kp2 b o (hkeep b o e)
 have none₁ : ∀ z, s₂.heap.objs.size <= z -> s₁.heap.get? z = none := fun z hz => by
  cases e : s₁.heap.get? z with
  | none => rfl
  | some o => exact absurd (Nat.lt_of_lt_of_le (Heap.lt_size (hkeep z o e)) hz) (Nat.lt_irrefl _)
 have hD1 := none₁ D (Nat.le_of_eq hDd)
 have hC1 := none₁ C (by erw [hDd, hC]; exact Nat.le_succ _)
 have hDo : h₃.get? D = some (LO [] 0) := hsb3.extBut _ _ hDC (Heap.get?_push_of_some _ (by erw [← hH2, ← hDd]; exact Heap.get?_push_size _ rfl))
 obtain ⟨oI, vI, nI, eI, _⟩ := hit 0 _ sg0
 have hID : I ≠ D := (old2 I oI eI).1
 have hIC : I ≠ C := (old2 I oI eI).2
 obtain ⟨oL, eL⟩ : ∃ o, s₁.heap.get? X.env.locals = some o := S1.ns.elim fun ζ h => h.elim fun o h => h.elim fun ζ h => h.elim fun ζ h => ⟨o, h.1⟩
 let s₄ : Shared := { s₂ with heap := h₃, toks := s₂.toks + ([] : List (Str × Value)).length }
 refine xA (c1f (W := W) (s' := s₄) T hk S1 hcl hcl2 hD1 hC1 hDC kp hos hgen hns3 ⟨_, hDo⟩) fun S4 P4 => ?_
 have hkI := c1e (C := C) (cl := cl) T hk hcl2
 have nad : ∀ {z}, s₁.heap.get? z = none -> z ∉ ad1 := fun e h => (S1.adl _ h).elim fun o e' => cGN e e'
 have start : CInv W (cmpX X csc cl C) X.Φ (names ++ tn) ρ σ1 Λ1 ad1 s₁ D I Sg kk CI l (l.length + 1) s₄ :=
  ⟨0, List.replicate kk none, σ1, _, ad1, [], 0, [], rfl, Nat.zero_le _, List.length_replicate, S4, P4, ⟨wk.frame _ _ _ sg0 fun b ζ o e => kp2 b o e, .inr (.inr rfl), nad hD1, fun h => h.elim (fun h => (S1.lt _ h).elim fun o e => cGN hI e) fun h => h.elim hIC hID, nad hI, hDo, .nil⟩, Nat.le_refl _, ci0⟩
 have hPK : ∀ {σx Λx adx hx}, Step (fun ζ => False) σ1 ad1 Λ1 s₁.heap σx adx Λx hx -> Keep Λ1 Λx s₁.heap hx := fun P => (P.weak (exc' := a2e X.env) fun ζ f => f.elim).keepS S1
 have inner : ∀ {j : Nat} {ys : List Value} {n : Nat} {vals : List V} {sa sb : Shared} {ρa : List (Option V)} {σa σb Λa ada adb Λb}, St W.gl (cmpX X csc cl C) (names ++ tn) ρa σa Λa ada sa -> Step (a1d (cmpX X csc cl C).env) σa ada Λa sa.heap σb adb Λb sb.heap ->
   Step (fun ζ => False) σ1 ad1 Λ1 s₁.heap σa ada Λa sa.heap -> CAt W.gl X.Φ D I (Sg j) ys n vals Λa ada sa.heap -> Step (fun ζ => False) σ1 ad1 Λ1 s₁.heap σb adb Λb sb.heap /\ CAt W.gl X.Φ D I (Sg j) ys n vals Λb adb sb.heap := by
  intro j ys n vals sa sb ρa σa σb Λa ada adb Λb Sa Pab P0 c
  have notLive : ∀ z, z ∉ ada -> ¬ a3g σa ada z := fun z hz ⟨i, o, e1, _⟩ => hz (a0g e1)
  obtain ⟨oI', vI', nI', eI', cI', dI', _⟩ := hit _ _ c.sg
  have P1b := P0.past Pab fun a h => (show a = C from h) ▸ hC1
  refine ⟨P1b, ?_, Pab.res D _ c.get c.dL (notLive D c.dA), fun h => (Pab.adO D h).elim c.dA fun h => cGN h c.get, fun h => (Pab.lamO I h).elim c.iL fun h => cGN h eI', fun h => (Pab.adO I h).elim c.iA fun h => cGN h eI', Pab.only D _ (notLive D c.dA) hDC c.get, c.rel.keep (Pab.keep Sa) Pab.pre⟩
  refine wk.frame _ _ _ c.sg fun b hb o e => ?_
  have two : ∀ {o'}, sa.heap.get? b = some o' -> sb.heap.get? b = some o' -> sb.heap.get? b = some o := fun g1 g2 => g2.trans (g1.symm.trans e)
  rcases hfp b hb with rfl | st
  ·exact two eI' (Pab.only b _ (notLive b c.iA) hIC eI')
  ·rcases st with ⟨vs, n, e0⟩ | ⟨nl, o0, hd, e0⟩ | ⟨nl, ne, o0, e0⟩
   ·exact two ((hPK P0).tups _ _ _ e0) ((hPK P1b).tups _ _ _ e0)
   ·exact two ((hPK P0).objs _ _ nl hd e0) ((hPK P1b).objs _ _ nl hd e0)
   ·exact two (P0.only _ _ nl (fun f => f) e0) (P1b.only _ _ nl (fun f => f) e0)
 have eltRun : ∀ {j : Nat} {ys : List Value} {n : Nat} {vals : List V} {sa : Shared} {tt' ρx σa Λa ada}, j < l.length -> ys.length <= j -> ρx = ρ ++ tt' -> tt'.length = kk -> St W.gl (cmpX X csc cl C) (names ++ tn) ρx σa Λa ada sa -> Step (fun ζ => False) σ1 ad1 Λ1 s₁.heap σa ada Λa sa.heap -> CAt W.gl X.Φ D I (Sg (j + 1)) ys n vals Λa ada sa.heap ->
   TE W k elt ρx σa (fun v σ3 => CI (j + 1) (vals ++ [v]) σ3) ->
   wpAny (model W.p W.w) X.A (eval el (compEnvC csc cl C X.env)) (fun y s₄ => wpAny (model W.p W.w) X.A (call (.builtin "list.append") [.ref D, y]) (fun ζ s5 => ∃ m, m < l.length + 1 - j /\ CInv W (cmpX X csc cl C) X.Φ (names ++ tn) ρ σ1 Λ1 ad1 s₁ D I Sg kk CI l m s5) (fun ζ ζ => False) s₄) (fun ζ ζ => False) sa := by
  intro j ys n vals sa tt' ρx σa Λa ada hlt hyl hρx htt' Sa P0 c te
  refine wpAny_mono (te (names ++ tn) csc el h3 (cmpX X csc cl C) hkI hr hw Λa ada sa Sa) (fun y s₄ h₄ => ?_) fun ζ ζ f => f
  obtain ⟨val, σ3, Λ4, ad4, S4', P4', r4, hfx⟩ := h₄
  refine xA (inner Sa P4' P0 c) fun P14 d => ?_
  refine wpAny_list_append_plain (c5a d.get) (fun h₅ hl5 hs5 => ?_) (by erw [List.size_toArray, sizeLine_eq]; exact Nat.le_of_succ_le (b8p hyl hlt hlen))
  obtain ⟨n5, e₅⟩ := hl5
  have e5' : h₅.get? D = some (LO (ys ++ [y]) n5) := by simpa [LO] using e₅
  refine xA (S4'.pokeL (t := s₄.toks) d.dL d.dA (show D ≠ C from hDC) (fun vs n e => a3x (e.symm.trans d.get)) (fun v hc => hc.elim fun o h => nomatch (congrArg Obj.data (a0l (h.1.symm.trans d.get))).symm.trans h.2) hs5.2 ⟨_, e5'⟩) fun S5' K5' => ?_
  refine ⟨l.length + 1 - (j + 1), b3c hlt, j + 1, tt', σ3, Λ4, ad4, ys ++ [y], n5, vals ++ [val], rfl, hlt, htt', hρx ▸ S5', P14.poke hD1 fun b o hb e => (hs5.2 b hb).trans e, ⟨?_, d.dL, d.dA, d.iL, d.iA, e5', (d.rel.keep K5' fun ζ ζ e => e).append (.cons (r4.keep K5' fun ζ ζ e => e) .nil)⟩, by erw [List.length_append]; exact Nat.succ_le_succ hyl, hfx⟩
  refine wk.frame _ _ _ d.sg fun b hb o e => (hs5.2 b fun h => ?_).trans e
  subst h
  rcases hfp b hb with h | st
  ·exact hID h.symm
  ·rcases st with ⟨vs, n, e0⟩ | ⟨nl, o0, hd, e0⟩ | ⟨nl, ne, o0, e0⟩ <;> exact cGN hD1 e0
 have loop : ∀ s5 : Shared, s5 = s₄ -> codeAny (model W.p W.w) X.A (.compLoop (.ListComp el [⟨tg, it, ifs, 0⟩] csc pos) 0 (.ref I) (.ref D) (compEnvC csc cl C X.env)) (compPost (model W.p W.w) X.A (fun ζ ζ => False) use QQ (.ref D) C) s5 := by
  rintro s5 rfl
  refine a4f (fun N cur => CInv W (cmpX X csc cl C) X.Φ (names ++ tn) ρ σ1 Λ1 ad1 s₁ D I Sg kk CI l N cur) ?_ (l.length + 1) start
  rintro N cur ⟨j, tt, σc, Λc, ad', ys, n, vals, rfl, hj, htt, Sc, Pc, c, hyl, hpr⟩
  have hiI := hit j _ c.sg
  have hBI : (cmpX X csc cl C).hB.get? I = none := by
   cases e : X.hB.get? I with
   | none => exact e
   | some o => exact cGN hI (S1.keep I o e)
  by_cases hlt : j < l.length
  ·obtain ⟨x, hx⟩ : ∃ x, l[j]? = some x := ⟨l[j], List.getElem?_eq_getElem hlt⟩
   refine wk.item j cur _ _ hlt c.sg fun v h' tk hPv sg' hk' => ?_
   have hkI' : ∀ b o, b ≠ I -> cur.heap.get? b = some o -> h'.get? b = some o := fun b o hb e => hk' b o (by simpa using hb) e
   refine xA (Sc.poke (t := tk) hiI hBI hIC hkI' c.iL c.iA) fun S5 K5 => ?_
   have P5 := Pc.poke hI hkI'
   have rv : VRel W.gl h' Λc X.Φ ad' v x := hP j v x hPv hx Λc ad' h' (hPK P5) P5.pre
   obtain ⟨ρx, hbc, hci⟩ := hitem j x vals σc hx hpr
   refine xAEA (c1g (names := names) S1.rl htt T.one1 hbc) fun hbt tt' hρx htt' => ?_
   refine a5i (hit _ _ sg') _ _ (S5.bind hkI hr T.tgt rv hbt fun s6 S6 P6 => ?_)
   have P6' : Step (a1d (cmpX X csc cl C).env) σc ad' Λc h' σc ad' Λc s6.heap := P6.weak fun ζ h => h.elim id fun ⟨y, hy, _⟩ => absurd rfl (T.nocell _ (mem_of_lookup hy))
   refine xA (inner (sa := { cur with heap := h', toks := tk }) S5 P6' P5 ⟨sg', c.dL, c.dA, c.iL, c.iA, hkI' D _ (Ne.symm hID) c.get, c.rel.keep K5 fun ζ ζ e => e⟩) fun P16 d => ?_
   cases cond with
   | none =>
    obtain ⟨rfl, h4⟩ := c0g h4
    rw [List.forIn_nil]
    exact wpAny_pure (eltRun hlt hyl hρx htt' S6 P16 d hci)
   | some cc =>
    obtain ⟨cx, rfl, h4⟩ := c0h h4
    rw [List.forIn_cons]
    refine wpAny_bind (wpAny_bind (wpAny_mono (hci (names ++ tn) csc cx h4 (cmpX X csc cl C) hkI hr hw Λc ad' s6 S6) (fun b s7 h₇ => ?_) fun ζ ζ f => f))
    obtain ⟨σ7, Λ7, ad7, S7, P7, hb⟩ := h₇
    refine xA (inner S6 P7 P16 d) fun P17 g => ?_
    refine wpAny_pure ?_
    show wpAny _ _ (forIn [] b _) _ _ _
    rw [List.forIn_nil]
    refine wpAny_pure ?_
    cases b with
    | true => exact eltRun hlt hyl hρx htt' S7 P17 g hb
    | false => exact ⟨l.length + 1 - (j + 1), b3c hlt, j + 1, tt', σ7, Λ7, ad7, ys, n, vals, rfl, hlt, htt', hρx ▸ S7, P17, g, c9l hyl, hb⟩
  ·obtain rfl : j = l.length := Nat.le_antisymm hj (Nat.le_of_not_lt hlt)
   refine wk.done cur _ _ c.sg fun h' tk hk' => ?_
   have hkI' : ∀ b o, b ≠ I -> cur.heap.get? b = some o -> h'.get? b = some o := fun b o hb e => hk' b o (by simpa using hb) e
   refine xA (Sc.poke (t := tk) hiI hBI hIC hkI' c.iL c.iA) fun S5 K5 => ?_
   have P5 := Pc.poke hI hkI'
   refine xEEA S5.vars fun mC cmC hnC ζ => ?_
   exact fin { cur with heap := h', toks := tk } C D Λc ad' ys n vals σc mC (St.outerV (s' := { cur with heap := h', toks := tk }) S1 S5 rfl rfl rfl rfl P5) (P1.trans (P5.weak fun ζ f => f.elim)) c.dL c.dA (Ne.symm (gne hD1 eL)) (a1z P1.dom hD1) (hkI' D _ (Ne.symm hID) c.get) (c.rel.keep K5 fun ζ ζ e => e) (q vals σc hpr) S5.locL S5.locA (Ne.symm (gne hC1 eL)) (Ne.symm hDC) hnC (a1z P1.dom hC1)
 exact codeAny_compStart_list (loop _ rfl) (wk.self 0 _ _ _ (wk.frame _ _ _ sg0 fun b ζ o e => kp2 b o e) (loop _ rfl))
theorem c1i {elt iter : CE} {cond : Option CE} {Qf : List D -> List O -> Prop} {el it : Expr} {ifs : List Expr} {pos pos' : Pos} {use : Option (Value -> Sem Unit)} {QQ : Value -> Shared -> Prop}
  (t : wpAny (model W.p W.w) X.A (eval it X.env) (fun xv s₁ => wpAny (model W.p W.w) X.A (pyIter xv) (PostI W X names ρ σ Λ ad s (fun l σ1 => ∃ Rel : V -> Option D -> Prop, (∀ x ∈ l, b0x W k elt cond ρ σ1 one kk x (Rel x)) /\ ∀ zs, PySem.Paired Rel l zs -> Qf (zs.filterMap id) σ1) s₁) (fun ζ ζ => False) s₁) (fun ζ ζ => False) s)
  (T : CmpT names sc csc one kk tg tn) (h2 : isE names sc iter it = true) (h3 : isE (names ++ tn) csc elt el = true) (h4 : isEc (names ++ tn) csc cond ifs = true) (hk : KindsOk X.env sc) (hr : Room X.A k) (hw : W.ok X.hB) (S : St W.gl X names ρ σ Λ ad s)
  (fin : ∀ cur C D Λf ad' ys σ1 m, St W.gl X names ρ σ1 Λf ad' cur -> Step (a1d X.env) σ ad Λ s.heap σ1 ad' Λf cur.heap -> DRel W.gl cur.heap (Un Λf X.Φ) (.ref D) (.lst ys) -> Qf ys σ1 -> Λf C -> C ∉ ad' -> C ≠ X.env.locals -> cur.heap.Ns C m -> s.heap.get? C = none ->
   compPost (model W.p W.w) X.A (fun ζ ζ => False) use QQ (.ref D) C (.ok .next) cur) :
  wpAny (model W.p W.w) X.A (comprehension (.ListComp el [⟨tg, it, ifs, 0⟩] csc pos) csc X.env pos' (newList []) false (eval it X.env) use) QQ (fun ζ ζ => False) s := by
 refine c1h (Qf := fun vals σc => ∃ ys, vals = ys.map V.d /\ Qf ys σc) (wpAny_mono t (fun xv s₁ h₁ => wpAny_mono h₁ (fun itv s₂ h₂ => ?_) fun ζ ζ f => f) fun ζ ζ f => f) T h2 h3 h4 hk hr hw S ?_
 ·obtain ⟨l, σ1, Λ1, ad1, S1, P1, wk, hlen, Rel, hitem, q⟩ := h₂
  refine ⟨l, σ1, Λ1, ad1, S1, P1, wk, hlen, fun j vals σc => σc = σ1 /\ ∃ zs, PySem.Paired Rel (l.take j) zs /\ vals = (zs.filterMap id).map V.d, ⟨rfl, [], .nil, rfl⟩, fun j x vals σc hx h => ?_, fun vals σc h => ?_⟩
  ·obtain ⟨rfl, zs, hp, rfl⟩ := h
   have take1 : ∀ {y : Option D}, Rel x y -> PySem.Paired Rel (l.take (j + 1)) (zs ++ [y]) := fun {y} hy => by
    erw [List.take_add_one, hx]; exact hp.snoc hy
   have some1 : ∀ {z : D}, Rel x (some z) -> ∃ zs', PySem.Paired Rel (l.take (j + 1)) zs' /\ (zs.filterMap id).map V.d ++ [V.d z] = (zs'.filterMap id).map V.d := fun {z} hz => ⟨zs ++ [some z], take1 hz, by erw [List.filterMap_append, List.map_append]; rfl⟩
   have none1 : Rel x none -> ∃ zs', PySem.Paired Rel (l.take (j + 1)) zs' /\ (zs.filterMap id).map V.d = (zs'.filterMap id).map V.d := fun hz => ⟨zs ++ [none], take1 hz, by erw [List.filterMap_append]; exact (congrArg _ (List.append_nil _)).symm⟩
   obtain ⟨ρx, hb, hi⟩ := hitem x (List.mem_of_getElem? hx)
   refine ⟨ρx, hb, ?_⟩
   cases cond with
   | none => exact TE.mono hi fun v σ' h => by obtain ⟨rfl, z, rfl, hz⟩ := h; exact ⟨rfl, some1 hz⟩
   | some c =>
    refine TC.mono hi fun b σ' h => ?_
    obtain ⟨rfl, h⟩ := h
    cases b with
    | true => exact TE.mono h fun v σ' h => by obtain ⟨rfl, z, rfl, hz⟩ := h; exact ⟨rfl, some1 hz⟩
    | false => exact ⟨rfl, none1 h⟩
  ·obtain ⟨rfl, zs, hp, rfl⟩ := h
   rw [List.take_length] at hp
   exact ⟨_, rfl, q zs hp⟩
 ·intro cur C D Λc ad' ys n vals σc m So Po hΛ hA hL hn hD r q' cΛ cA cL cD cN cn
  obtain ⟨zs, rfl, q⟩ := q'
  refine fin cur C D _ ad' zs σc m (So.shed hA hL) (Po.shed hn) (.lst hD ?_ (r.toD.keep (.weak fun b h => h.elim (fun h => .inl h.1) .inr))) q ⟨cΛ, cD⟩ cA cL cN cn
  rintro (h | h)
  ·exact h.2 rfl
  ·exact (S.phi D h).elim fun o e => cGN hn (S.keep _ _ e)
theorem b6x {elt iter : CE} {cond : Option CE} {Qf : List D -> List O -> Prop} {el it : Expr} {ifs : List Expr} {pos pos' : Pos} {use : Option (Value -> Sem Unit)} {QQ : Value -> Shared -> Prop}
  (t : TI W k iter ρ σ fun l σ1 => ∃ Rel : V -> Option D -> Prop, (∀ x ∈ l, b0x W k elt cond ρ σ1 one kk x (Rel x)) /\ ∀ zs, PySem.Paired Rel l zs -> Qf (zs.filterMap id) σ1)
  (T : CmpT names sc csc one kk tg tn) (h2 : isE names sc iter it = true) (h3 : isE (names ++ tn) csc elt el = true) (h4 : isEc (names ++ tn) csc cond ifs = true) (hk : KindsOk X.env sc) (hr : Room X.A k) (hw : W.ok X.hB) (S : St W.gl X names ρ σ Λ ad s)
  (fin : ∀ cur C D Λf ad' ys σ1 m, St W.gl X names ρ σ1 Λf ad' cur -> Step (a1d X.env) σ ad Λ s.heap σ1 ad' Λf cur.heap -> DRel W.gl cur.heap (Un Λf X.Φ) (.ref D) (.lst ys) -> Qf ys σ1 -> Λf C -> C ∉ ad' -> C ≠ X.env.locals -> cur.heap.Ns C m -> s.heap.get? C = none ->
   compPost (model W.p W.w) X.A (fun ζ ζ => False) use QQ (.ref D) C (.ok .next) cur) :
  wpAny (model W.p W.w) X.A (comprehension (.ListComp el [⟨tg, it, ifs, 0⟩] csc pos) csc X.env pos' (newList []) false (eval it X.env) use) QQ (fun ζ ζ => False) s :=
 c1i (iter := iter) (t names sc it h2 X hk hr hw Λ ad s S) T h2 h3 h4 hk hr hw S fin
end
end Mine
end
section
open PySem PyProof.Rows PySem.SeqAt
namespace Mine
section
variable {W : World0} {k : Nat} {A : Around} {s s' s'' : Shared} {F : Addr -> Prop} {sc csc : Scope}
variable {gl : Str -> Option Value} {X : Cx} {names : List Str} {ρ ρ' : List (Option V)} {σ σ' σ'' : List O} {Λ Λ' Λ'' : Addr -> Prop} {ad ad' ad'' : List Addr}
theorem c5q {h : Heap} {z : Addr} {m : Str -> Option Value} (n : h.Ns z m) (vs : List Value) (k : Nat) : h.get? z ≠ some (TO vs k) := b2s n
theorem a9v {h : Heap} {z : Addr} {m : Str -> Option Value} (n : h.Ns z m) (v : Option Value) : ¬ h.IsCell z v := fun c => a2j c n rfl
theorem St.dropC {C : Addr} {m : Str -> Option Value} (S : St gl X names ρ σ Λ ad s) (hΛ : Λ C) (hA : C ∉ ad) (hL : C ≠ X.env.locals) (hn : s.heap.Ns C m) {h' : Heap} (hs : Heap.SameBut C s.heap h') {h₀ : Heap} {σ0 : List O} {ad0 : List Addr} {Λ0 : Addr -> Prop} {exc : Addr -> Prop}
  (P : Step exc σ0 ad0 Λ0 h₀ σ ad Λ s.heap) (hC : h₀.get? C = none) :
  St gl X names ρ σ (fun b => Λ b /\ b ≠ C) ad { s with heap := h' } /\ Keep Λ (fun b => Λ b /\ b ≠ C) s.heap h' /\ Step exc σ0 ad0 Λ0 h₀ σ ad (fun b => Λ b /\ b ≠ C) h' := by
 obtain ⟨S', K⟩ := S.drop (t := s.toks) hΛ hA hL (c5q hn) (a9v hn) hs.2
 refine ⟨S', K, fun a o nl ne e => ?_, fun a o e => ?_, fun a l => P.lamO a l.1, P.pre, P.liv, P.adO, fun a o e l nl => ⟨P.res a o e l nl, fun h => by subst h; exact dGN hC e⟩⟩
 ·rw [hs.2 a fun h => by subst h; exact dGN hC e]; exact P.only a o nl ne e
 ·obtain ⟨o', e'⟩ := P.dom a o e
  exact ⟨o', by erw [hs.2 a fun h => by subst h; exact dGN hC e]; exact e'⟩
theorem TE.compR {elt iter : CE} {kk : Nat} {one : Bool} {cond : Option CE} {Q : V -> List O -> Prop}
  (t : TI W k iter ρ σ fun l σ1 => ∃ Rel : V -> Option D -> Prop, (∀ x ∈ l, b0x W k elt cond ρ σ1 one kk x (Rel x)) /\ ∀ zs, PySem.Paired Rel l zs -> Q (.d (.lst (zs.filterMap id))) σ1) : TE W k (.comp elt kk one iter cond) ρ σ Q := fun names sc E he X hk hr hw Λ ad s S => by
 obtain ⟨el, tg, it, ifs, csc, pos, tn, rfl, T, h2, h3, h4⟩ := a9u he
 erw [eval_ListComp]
 show wpAny _ _ (comprehension (.ListComp el [⟨tg, it, ifs, 0⟩] csc pos) csc X.env it.pos (newList []) false (eval it X.env) Option.none) _ _ _
 refine b6x (Qf := fun ys σ1 => Q (.d (.lst ys)) σ1) t T h2 h3 h4 hk hr hw S fun cur C D Λf ad' ys σ1 m So Po dr q hΛ hA hL hn hC => ?_
 refine ⟨m, hn, fun h' hs' => ?_⟩
 refine xAA (So.dropC hΛ hA hL hn hs' Po hC) fun S' K P' => ?_
 exact ⟨_, _, _, _, S', P', .d (dr.keep K.un), q⟩
theorem a9w {f : V -> Option D} {l : List V} {zs : List (Option D)} (h : PySem.Paired (fun x y => y = f x) l zs) : zs.filterMap id = l.filterMap f := by
 induction h with
 | nil => rfl
 | cons h t ih => erw [List.filterMap_cons, List.filterMap_cons, ih, h]; rfl
theorem TI.mono {e : CE} {Q Q' : List V -> List O -> Prop} (t : TI W k e ρ σ Q) (h : ∀ l σ, Q l σ -> Q' l σ) : TI W k e ρ σ Q' := fun names sc E he X hk hr hw Λ ad s S =>
 wpAny_mono (t names sc E he X hk hr hw Λ ad s S) (fun v s₁ h₁ => wpAny_mono h₁ (fun it s₂ ⟨l, a, b, c, d, e, f, g, i⟩ => ⟨l, a, b, c, d, e, f, g, h _ _ i⟩) fun ζ ζ f => f) fun ζ ζ f => f
theorem TE.comp {elt iter : CE} {kk : Nat} {one : Bool} {cond : Option CE} {Q : V -> List O -> Prop}
  (t : TI W k iter ρ σ fun l σ1 => ∃ f : V -> Option D, (∀ x ∈ l, b0x W k elt cond ρ σ1 one kk x fun y => y = f x) /\ Q (.d (.lst (l.filterMap f))) σ1) : TE W k (.comp elt kk one iter cond) ρ σ Q :=
 TE.compR (t.mono fun l σ1 ⟨f, h1, h2⟩ => ⟨fun x y => y = f x, h1, fun zs hz => by erw [a9w hz]; exact h2⟩)
theorem TS1.asgCR {i : Nat} {elt iter : CE} {kk : Nat} {one : Bool} {cond : Option CE} {Q : Out -> List (Option V) -> List O -> Prop}
  (t : TI W k iter ρ σ fun l σ1 => ∃ Rel : V -> Option D -> Prop, (∀ x ∈ l, b0x W k elt cond ρ σ1 one kk x (Rel x)) /\ ∀ zs, PySem.Paired Rel l zs -> Q .next (ρ.set i (some (.d (.lst (zs.filterMap id))))) σ1) : TS1 W k (.asg i (.comp elt kk one iter cond)) ρ σ Q := fun names sc S he X hk hr hw Λ ad s St' => by
 replace he := c0i he; obtain ⟨x, px, v, pos, rfl, he⟩ := he
 ·skip
  simp only [Bool.and_eq_true] at he
  have hv := he.2
  obtain ⟨el, tg, it, ifs, csc, cpos, tn, rfl, T, h2, h3, h4⟩ := a9u hv
  obtain ⟨b, hb⟩ : ∃ b : Bool, swapsWith (.ListComp el [⟨tg, it, ifs, 0⟩] csc cpos) (some (.Name x px)) pos.line X.env = pure b /\ (b = true -> X.env.kindOf x = some .local) := ⟨_, rfl, fun h => by
   simp only [Bool.and_eq_true, beq_iff_eq] at h; exact h.1.1.2⟩
  cases b with
  | false =>
   refine wpAny_Assign_Name (wpAny_mono (TE.compR (Q := fun v σ' => Q .next (ρ.set i (some v)) σ') t names sc _ hv X hk hr hw Λ ad s St') (fun v s₁ h₁ => ?_) fun ζ ζ f => f) hb.1
   obtain ⟨val, σ1, Λ1, ad1, S1, P1, r, q⟩ := h₁
   exact S1.store hk he.1 r fun s₂ S2 P2 => ⟨.next, _, _, _, _, S2, P1.own.trans P2.ownS, .next, q⟩
  | true =>
   erw [exec_Assign_Name_used _ _ _ _ hb.1]
   refine wpAny_bind (wpAny_standAt (wpAny_bind ?_))
   show wpAny _ _ (do let _ ← comprehension (.ListComp el [⟨tg, it, ifs, 0⟩] csc cpos) csc X.env it.pos (newList []) false (eval it X.env) (some (assign (.Name x px) X.env))) _ _ s
   refine wpAny_bind (wpAny_mono (b6x (Qf := fun ys σ1 => Q .next (ρ.set i (some (.d (.lst ys)))) σ1) (QQ := fun ζ s' => PostS W.gl X names σ Λ ad s Q .next s') t T h2 h3 h4 hk hr hw St' fun cur C D Λf ad' ys σ1 m So Po dr q hΛ hA hL hn hC => ?_) (fun ζ s' hq => wpAny_pure (wpAny_pure hq)) fun ζ ζ f => f)
   show wpAny _ _ (assign (.Name x px) X.env (.ref D)) _ _ _
   refine wpAny_assign_Name (So.store hk he.1 (.d dr) fun s₂ S2 P2 => ?_)
   have hnl : ¬ a3g σ1 ad' C := fun ⟨i, o, e1, _⟩ => hA (a0g e1)
   have hne : ¬ a1x sc X.env C := fun h => by
    rcases h with h | ⟨y, _, h⟩
    ·exact hL h
    ·refine a0u So.vars fun m' cm ζ hc ζ => ?_
     exact a9v hn _ (hc y C h)
   have hn₂ : s₂.heap.Ns C m := by
    obtain ⟨o, es, ep, e, r⟩ := hn
    exact ⟨o, es, ep, P2.only C o hnl hne e, r⟩
   refine ⟨m, hn₂, fun h' hs' => ?_⟩
   refine xAA (S2.dropC hΛ hA hL hn₂ hs' (Po.own.trans P2.ownS) hC) fun S' K P' => ?_
   exact ⟨.next, _, _, _, _, S', P', .next, q⟩
theorem TS1.asgC {i : Nat} {elt iter : CE} {kk : Nat} {one : Bool} {cond : Option CE} {Q : Out -> List (Option V) -> List O -> Prop}
  (t : TI W k iter ρ σ fun l σ1 => ∃ f : V -> Option D, (∀ x ∈ l, b0x W k elt cond ρ σ1 one kk x fun y => y = f x) /\ Q .next (ρ.set i (some (.d (.lst (l.filterMap f))))) σ1) : TS1 W k (.asg i (.comp elt kk one iter cond)) ρ σ Q :=
 TS1.asgCR (t.mono fun l σ1 ⟨f, h1, h2⟩ => ⟨fun x y => y = f x, h1, fun zs hz => by erw [a9w hz]; exact h2⟩)
structure PutV (σ : List O) (va vb vc : V) (σ' : List O) : Prop where
 run : ∀ {W : World0} {X : Cx} {k : Nat} {names : List Str} {ρ : List (Option V)} {Λ : Addr -> Prop} {ad : List Addr} {s : Shared} {v u y : Value}, St W.gl X names ρ σ Λ ad s -> Room X.A k -> VRel W.gl s.heap Λ X.Φ ad v va -> VRel W.gl s.heap Λ X.Φ ad u vb -> VRel W.gl s.heap Λ X.Φ ad y vc ->
  ∀ {QQ : Unit -> Shared -> Prop} {E : Value -> Shared -> Prop}, (∀ s', St W.gl X names ρ σ' Λ ad s' -> Step (a1d X.env) σ ad Λ s.heap σ' ad Λ s'.heap -> QQ () s') -> wpAny (model W.p W.w) X.A (setItem v u y) QQ E s
theorem PutV.dI {n : Nat} {w : V} {l : List (Int × D)} {i : Int} {x : D} (e0 : σ[n]? = some (.dI l)) (e1 : a0h σ w = some (.int i)) (hz : l.length <= 16777216) : PutV σ (.r n) w (.d x) (σ.set n (.dI (put l i x))) := .mk fun {W X k names ρ Λ ad s v u y} S hr rv ru ry QQ E q => by
 obtain ⟨t, rfl⟩ := (a0z S ru e1).intI
 obtain ⟨a, rfl, e⟩ := rv.rInv
 obtain ⟨kvs, hm, hl, fin⟩ := S.putI (key := _) (t := 0) e e0 hz ry.dInv
 exact wpAny_setItem_pairs (knd := intKind W.p W.w) (b8m _ _) hm (fun h' hm' hs' => q _ (fin h' _ hm' hs').1 (fin h' 0 hm' hs').2) hl
theorem PutV.dT {n : Nat} {w : V} {l : List (List Int × D)} {i : List Int} {x : D} (e0 : σ[n]? = some (.dT l)) (e1 : a0h σ w = some (.tup (i.map .int))) (hz : l.length <= 16777216) : PutV σ (.r n) w (.d x) (σ.set n (.dT (put l i x))) := .mk fun {W X k names ρ Λ ad s v u y} S hr rv ru ry QQ E q => by
 obtain ⟨b, vs, m, rfl, t1, t2⟩ := (a0z S ru e1).tupI
 obtain ⟨a, rfl, e⟩ := rv.rInv
 refine xEAA (S.putT e e0 hz t1 (a1e t2) ry.dInv) fun xs hm hl fin => ?_
 exact wpAny_setItem_heap (knd := tupleKind (intKind W.p W.w)) hr.in1 (a1t t1 (a1e t2)) hm (fun h' hm' hs' => q _ (fin h' _ hm' hs').1 (fin h' 0 hm' hs').2) hl
theorem TS1.asgS {a i e : CE} {Q : Out -> List (Option V) -> List O -> Prop} (t : TE W k e ρ σ fun v σ1 => TE W k a ρ σ1 fun o σ2 => TE W k i ρ σ2 fun w σ3 => ∃ σ4, PutV σ3 o w v σ4 /\ Q .next ρ σ4) (hn : a2u e = true := by rfl) : TS1 W k (.asgS a i e) ρ σ Q := fun names sc S he X hk hr hw Λ ad s St' => by
 replace he := c4u he; obtain ⟨oe, ke, pos', ve, pos, rfl, he⟩ := he
 ·skip
  simp only [Bool.and_eq_true] at he
  refine wpAny_Assign_Subscript (wpAny_mono (t names sc _ he.2 X hk hr hw Λ ad s St') (fun v s₁ h₁ => ?_) fun ζ ζ f => f) (a3b he.2 hn _ _ _)
  obtain ⟨val, σ1, Λ1, ad1, S1, P1, r₁, t₁⟩ := h₁
  refine wpAny_mono (t₁ names sc _ he.1.1 X hk hr hw Λ1 ad1 s₁ S1) (fun o s₂ h₂ => ?_) fun ζ ζ f => f
  obtain ⟨vo, σ2, Λ2, ad2, S2, P2, r₂, t₂⟩ := h₂
  refine wpAny_mono (t₂ names sc _ he.1.2 X hk hr hw Λ2 ad2 s₂ S2) (fun w s₃ h₃ => ?_) fun ζ ζ f => f
  obtain ⟨vw, σ3, Λ3, ad3, S3, P3, r3, σ4, c, q⟩ := h₃
  exact c.run S3 hr (r₂.step S2 P3) r3 ((r₁.step S1 P2).step S2 P3) fun s₄ S4 P4 => ⟨.next, _, _, _, _, S4, (((P1.trans P2).trans P3).trans P4).own, .next, q⟩
end
end Mine
end
section
open PySem PyProof.Rows PySem.SeqAt
namespace Mine
section
variable {W : World0} {k : Nat} {A : Around} {s s' s'' : Shared} {F : Addr -> Prop} {sc : Scope}
variable {gl : Str -> Option Value} {X : Cx} {names : List Str} {ρ ρ' : List (Option V)} {σ σ' σ'' : List O} {Λ Λ' : Addr -> Prop} {ad ad' : List Addr}
end
end Mine
end
section
open PySem PyProof.Rows PySem.SeqAt
namespace Mine
section
variable {W : World0} {k : Nat} {A : Around} {s s' s'' : Shared} {F : Addr -> Prop} {sc : Scope}
variable {gl : Str -> Option Value} {X : Cx} {names : List Str} {ρ ρ' : List (Option V)} {σ σ' σ'' : List O} {Λ Λ' : Addr -> Prop} {ad ad' : List Addr}
theorem TE.appendS {p i : CE} {e : CE} {j : Nat} {Q : V -> List O -> Prop} (tr : TE W k (.sub p i) ρ σ fun v σ' => v = .r j /\ σ' = σ) (h0 : ∃ l, σ[j]? = some (.lst l)) (t : TE W k e ρ σ fun v σ' => ∃ x l, v = .d x /\ σ'[j]? = some (.lst l) /\ l.length <= 16777216 /\ Q (.d .none) (σ'.set j (.lst (l ++ [x])))) :
  TE W k (.meth (.sub p i) "append" [e]) ρ σ Q := fun names sc E he X hk hr hw Λ ad s S => by
 replace he := a7g he; obtain ⟨o, n, ap, args, pos, rfl, he⟩ := he
 simp only [Bool.and_eq_true, beq_iff_eq] at he
 obtain ⟨⟨⟨⟨hv, rfl⟩, hes⟩, _⟩, hl⟩ := he
 have hv' := hv
 replace hv' := b4t hv'; obtain ⟨v1, v2, px, rfl, hv'⟩ := hv'
 replace hes := a0i hes; obtain ⟨x1, xs, rfl, hes⟩ := hes
 simp only [Bool.and_eq_true] at hes
 obtain ⟨he1, hnil⟩ := hes
 replace hnil := a0n hnil; obtain ⟨rfl, hnil⟩ := hnil
 refine Call_method1 rfl (a0v he1 _ _) (by simpa using hl) ?_
 refine wpAny_mono (tr names sc _ hv X hk hr hw Λ ad s S) (fun v s₁ h₁ => ?_) fun ζ ζ f => f
 obtain ⟨val, σ1, Λ1, ad1, S1, P1, r₁, rfl, rfl⟩ := h₁
 obtain ⟨l0, h0⟩ := h0
 have key : MethodOnS W.p W.w X.A (fun ζ ζ => False) (Str.ofString "append") v pos [(false, eval x1 X.env)] (Post W.gl X names ρ σ1 Λ1 ad1 s₁ Q) s₁ := by
  refine a3y S1 r₁ h0 PySem.F.slot_list_append PySem.F.type_list_append fun a vs n hva ea h1 h2 => ?_
  refine PySem.P.append_list (wpAny_mono (t names sc x1 he1 X hk hr hw Λ1 ad1 s₁ S1) (fun y s₂ h₂ => ?_) fun ζ ζ f => f)
  obtain ⟨val, σ2, Λ2, ad2, S2, P2, r₂, x', l, rfl, eo, hlen, q⟩ := h₂
  have ea' := P2.pre _ _ ea
  obtain ⟨_, vs', n', h1', h2'⟩ := S2.objs j a _ ea' eo (by intro h; cases h)
  refine ⟨vs'.toArray, n', by simp only [List.size_toArray, h2'.length]; exact hlen, h1', ?_⟩
  obtain ⟨n'', e''⟩ := a5f h1' fun xs => xs.push y
  obtain ⟨S3, P3⟩ := S2.relist (t := s₂.toks) (n := n') (vs := vs') ea' eo (h' := s₂.heap.update a (Obj.mapSeq fun xs => xs.push y)) (fun b hb => Heap.get?_update_other _ _ (Ne.symm hb)) e'' (l' := l ++ [x']) (by
   have := h2'.append (.cons r₂.dInv .nil)
   simpa using this)
  exact ⟨_, _, _, _, S3, P2.trans P3, .d .none, q⟩
 obtain ⟨T, id, h1, h2, h3, h4, h5, h6⟩ := key
 exact ⟨T, id, h1, h2, h3, h4, h5, wpAny_mono h6 (fun v s₂ p => p.trans P1) fun ζ ζ f => f⟩
end
end Mine
end
section
open PySem PyProof.Rows PySem.SeqAt
namespace Mine
section
variable {W : World0} {k : Nat} {A : Around} {s s' s'' : Shared} {F : Addr -> Prop} {sc csc : Scope}
variable {gl : Str -> Option Value} {X Y : Cx} {names : List Str} {ρ ρ' : List (Option V)} {σ σ' σ'' : List O} {Λ Λ' Λ'' : Addr -> Prop} {ad ad' ad'' : List Addr}
variable {one : Bool} {kk : Nat} {tg : Expr} {tn : List Str} {cl : List (Str × Addr)} {C : Addr}
theorem Step.adopt {exc : Addr -> Prop} {h h' : Heap} {D : Addr} {o : O} (hl : ad'.length = σ'.length) (P : Step exc σ ad Λ h σ' ad' Λ' h') (hD : h.get? D = none) : Step exc σ ad Λ h (σ' ++ [o]) (ad' ++ [D]) Λ' h' := by
 refine ⟨P.only, P.dom, P.lamO, fun i a e => a7h (P.pre i a e), fun a l => ?_, fun a l => ?_, P.res⟩
 ·obtain ⟨i, o', e1, e2, e3⟩ := l
  rcases get_snoc e1 with e1' | ⟨_, hb⟩
  ·have hlt : i < σ'.length := by erw [← hl]; exact (List.getElem?_eq_some_iff.mp e1').1
   rw [List.getElem?_append_left hlt] at e2
   exact P.liv a ⟨i, o', e1', e2, e3⟩
  ·erw [hb]; exact .inr hD
 ·rcases List.mem_append.mp l with l | l
  ·exact P.adO a l
  ·erw [List.mem_singleton.mp l]; exact .inr hD
end
end Mine
end
section
open PySem PyProof.Rows
namespace Mine
noncomputable def AllP : List Prop -> Prop
 | [] => True
 | c :: cs => c /\ AllP cs
inductive Spec (W : World0) (k : Nat) (f : String) (args : List V) (r : D) : Prop
 | mk (cf : CF) (has : HasF W f cf) (run : Fun W k f args fun x => x = r) : Spec W k f args r
noncomputable def TEq (W : World0) (k : Nat) (e : CE) (ρ : List (Option V)) (σ : List O) (r : D) : Prop := TE W k e ρ σ fun v σ' => v = .d r /\ σ' = σ
noncomputable def b2 {α : Type} (x : Option (V × List Prop × List D)) (f : V -> List Prop -> List D -> Option α) : Option α := match x with
 | some (v, cs, tp) => f v cs tp
 | none => none
noncomputable def bB {α : Type} (x : Option (V × List Prop × List D)) (f : Bool -> List Prop -> List D -> Option α) : Option α := match x with
 | some (.d (.bool b), cs, tp) => f b cs tp
 | _ => none
noncomputable def bI {α : Type} (x : Option D) (f : Int -> Option α) : Option α := match x with
 | some (.int i) => f i
 | _ => none
noncomputable def bL {α : Type} (x : Option (List V × List Prop × List D)) (f : List V -> List Prop -> List D -> Option α) : Option α := match x with
 | some (v, cs, tp) => f v cs tp
 | none => none
noncomputable def bT {α : Type} (tp : List D) (f : D -> List D -> Option α) : Option α := match tp with
 | x :: tp => f x tp
 | [] => none
noncomputable def pint (op : Operator) (a b : Int) (cs : List Prop) (tp : List D) : Option (V × List Prop × List D) := match op with
 | .Add => some (.d (.int (a + b)), cs, tp)
 | .Sub => some (.d (.int (a - b)), cs, tp)
 | .Mult => some (.d (.int (a * b)), ((-(2 ^ 64) < a /\ a < 2 ^ 64) ∨ (-(2 ^ 64) < b /\ b < 2 ^ 64)) :: cs, tp)
 | .FloorDiv => some (.d (.int (a.fdiv b)), (b ≠ 0 /\ b.natAbs < 1073741824) :: cs, tp)
 | .Mod => some (.d (.int (a.fmod b)), (b ≠ 0) :: cs, tp)
 | _ => none
noncomputable def bAdd {α : Type} (op : Operator) (x : Option α) : Option α := match op with
 | .Add => x
 | _ => none
noncomputable def bO {α β : Type} (x : Option β) (f : β -> Option α) : Option α := match x with
 | some b => f b
 | none => none
noncomputable def padd (op : Operator) (l l' : Option (List D)) (cs : List Prop) (tp : List D) : Option (V × List Prop × List D) :=
 bAdd op (bO l fun l => bO l' fun l' => some (.d (.lst (l ++ l')), (l.length + l'.length <= 16777216) :: cs, tp))
noncomputable def pbin (op : Operator) (σ : List O) (va vb : V) (cs : List Prop) (tp : List D) : Option (V × List Prop × List D) := match a0h σ va with
 | some (.int a) => bI (a0h σ vb) fun b => pint op a b cs tp
 | some (.lst _) => padd op (lstV σ va) (lstV σ vb) cs tp
 | _ => none
noncomputable def peq (x y : Option D) (cs : List Prop) : Option (Bool × List Prop) := match x, y with
 | some (.int a), some (.int b) => some (a == b, cs)
 | some x, some y => some (eqD x y, (a0q x = true /\ a0q y = true /\ dep x <= 200) :: cs)
 | _, _ => none
noncomputable def pis (x : Option D) (vb : V) : Option Bool := match vb, x with
 | .d .none, some (.fn _) => none
 | .d .none, some .none => some true
 | .d .none, some _ => some false
 | _, _ => none
noncomputable def bE {α : Type} (x : Option (Bool × List Prop)) (f : Bool -> List Prop -> Option α) : Option α := match x with
 | some (b, cs) => f b cs
 | none => none
noncomputable def pcmp (op : CmpOp) (σ : List O) (va vb : V) (cs : List Prop) (tp : List D) : Option (V × List Prop × List D) := match op with
 | .Lt => bI (a0h σ va) fun a => bI (a0h σ vb) fun b => some (.d (.bool (decide (a < b))), cs, tp)
 | .LtE => bI (a0h σ va) fun a => bI (a0h σ vb) fun b => some (.d (.bool (decide (a <= b))), cs, tp)
 | .Gt => bI (a0h σ va) fun a => bI (a0h σ vb) fun b => some (.d (.bool (decide (b < a))), cs, tp)
 | .GtE => bI (a0h σ va) fun a => bI (a0h σ vb) fun b => some (.d (.bool (decide (b <= a))), cs, tp)
 | .Eq => bE (peq (a0h σ va) (a0h σ vb) cs) fun b cs => some (.d (.bool b), cs, tp)
 | .NotEq => bE (peq (a0h σ va) (a0h σ vb) cs) fun b cs => some (.d (.bool !b), cs, tp)
 | .Is => bO (pis (a0h σ va) vb) fun b => some (.d (.bool b), cs, tp)
 | .IsNot => bO (pis (a0h σ va) vb) fun b => some (.d (.bool !b), cs, tp)
 | _ => none
noncomputable def plit (σ : List O) (va : V) (i : Int) : Option V := match seqV σ va, i with
 | some (_, l), .ofNat n => if Nat.blt n 1000 then l[n]? else none
 | _, _ => none
noncomputable def dsOf : List V -> Option (List D)
 | [] => some []
 | .d x :: l => bO (dsOf l) fun l => some (x :: l)
 | _ :: _ => none
noncomputable def bW {α : Type} (b : Bool) (x : Option α) : Option α := match b with
 | true => x
 | false => none
noncomputable def bX {α : Type} {e : CE} (x : Option {n : Int // e = .int n}) (f : Int -> Option α) (y : Option α) : Option α := match x with
 | some n => f n.1
 | none => y
noncomputable def litOf (e : CE) : Option {n : Int // e = .int n} := match e with
 | .int n => some ⟨n, rfl⟩
 | _ => none
noncomputable def c5r (σ : List O) : List V -> Option (List V)
 | [] => some []
 | .d x :: l => bO (c5r σ l) fun l => some (.d x :: l)
 | v :: l => bO (a0h σ v) fun x => bO (c5r σ l) fun l => some (.a x :: l)
set_option tactic.hygienic true in
mutual
noncomputable def pv (W : World0) (k : Nat) (σ : List O) (ρ : List (Option V)) : CE -> List Prop -> List D -> Option (V × List Prop × List D)
 | .int i, cs, tp => some (.d (.int i), cs, tp)
 | .bool b, cs, tp => some (.d (.bool b), cs, tp)
 | .none, cs, tp => some (.d .none, cs, tp)
 | .str x, cs, tp => some (.d (.str (Str.ofString x)), cs, tp)
 | .var i, cs, tp => bO ρ[i]? fun v => bO v fun v => some (v, cs, tp)
 | .bin op a b, cs, tp => b2 (pv W k σ ρ a cs tp) fun va cs tp => b2 (pv W k σ ρ b cs tp) fun vb cs tp => pbin op σ va vb cs tp
 | .cmp op a b, cs, tp => b2 (pv W k σ ρ a cs tp) fun va cs tp => b2 (pv W k σ ρ b cs tp) fun vb cs tp => pcmp op σ va vb cs tp
 | .neg a, cs, tp => b2 (pv W k σ ρ a cs tp) fun va cs tp => bI (a0h σ va) fun i => some (.d (.int (-i)), cs, tp)
 | .not a, cs, tp => bB (pv W k σ ρ a cs tp) fun b cs tp => some (.d (.bool !b), cs, tp)
 | .and l, cs, tp => pvA W k σ ρ l cs tp
 | .or l, cs, tp => pvO W k σ ρ l cs tp
 | .tup l, cs, tp => bL (pvs W k σ ρ l cs tp) fun vs cs tp => bO (dsOf vs) fun l => bW (Nat.ble l.length 100) (some (.d (.tup l), cs, tp))
 | .lst l, cs, tp => bL (pvs W k σ ρ l cs tp) fun vs cs tp => bO (dsOf vs) fun l => bW (Nat.ble l.length 100) (some (.d (.lst l), cs, tp))
 | .sub a i, cs, tp => b2 (pv W k σ ρ a cs tp) fun va cs tp => bX (litOf i) (fun n => bO (plit σ va n) fun v => some (v, cs, tp))
   (b2 (pv W k σ ρ i cs tp) fun vi cs tp => bT tp fun x tp => some (.d x, SubV σ va vi (.d x) :: cs, tp))
 | .call f l, cs, tp => bL (pvs W k σ ρ l cs tp) fun vs cs tp => bO (c5r σ vs) fun args => bW (!vs.isEmpty) (bT tp fun x tp => some (.d x, Spec W k f args x :: cs, tp))
 | .cmp2 _ _ _ _ _, _, _ => none
 | .ite _ _ _, _, _ => none
 | e, cs, tp => bT tp fun x tp => some (.d x, TEq W k e ρ σ x :: cs, tp)
noncomputable def pvs (W : World0) (k : Nat) (σ : List O) (ρ : List (Option V)) : List CE -> List Prop -> List D -> Option (List V × List Prop × List D)
 | [], cs, tp => some ([], cs, tp)
 | e :: es, cs, tp => b2 (pv W k σ ρ e cs tp) fun v cs tp => bL (pvs W k σ ρ es cs tp) fun vs cs tp => some (v :: vs, cs, tp)
noncomputable def pvA (W : World0) (k : Nat) (σ : List O) (ρ : List (Option V)) : List CE -> List Prop -> List D -> Option (V × List Prop × List D)
 | [], cs, tp => none
 | [e], cs, tp => bB (pv W k σ ρ e cs tp) fun b cs tp => some (.d (.bool b), cs, tp)
 | e :: es, cs, tp => bB (pv W k σ ρ e cs tp) fun b cs tp => bB (pvA W k σ ρ es cs tp) fun c cs tp => some (.d (.bool (b && c)), cs, tp)
noncomputable def pvO (W : World0) (k : Nat) (σ : List O) (ρ : List (Option V)) : List CE -> List Prop -> List D -> Option (V × List Prop × List D)
 | [], cs, tp => none
 | [e], cs, tp => bB (pv W k σ ρ e cs tp) fun b cs tp => some (.d (.bool b), cs, tp)
 | e :: es, cs, tp => bB (pv W k σ ρ e cs tp) fun b cs tp => bB (pvO W k σ ρ es cs tp) fun c cs tp => some (.d (.bool (b || c)), cs, tp)
end
section
variable {α β : Type}
theorem a3m {x : Option (V × List Prop × List D)} {f : V -> List Prop -> List D -> Option α} {r : α} (h : b2 x f = some r) : ∃ v cs tp, x = some (v, cs, tp) /\ f v cs tp = some r := by
 cases x with
 | none => exact dNS h
 | some p => obtain ⟨v, cs, tp⟩ := p; exact ⟨v, cs, tp, rfl, h⟩
theorem a4r {x : Option (V × List Prop × List D)} {f : Bool -> List Prop -> List D -> Option α} {r : α} (h : bB x f = some r) : ∃ v cs tp, x = some (.d (.bool v), cs, tp) /\ f v cs tp = some r := by
 cases x with
 | none => exact dNS h
 | some p =>
  obtain ⟨v, cs, tp⟩ := p
  cases v with
  | d x => cases x with
   | bool b => exact ⟨b, cs, tp, rfl, h⟩
   | _ => exact dNS h
  | _ => exact dNS h
theorem a2v {x : Option D} {f : Int -> Option α} {r : α} (h : bI x f = some r) : ∃ i, x = some (.int i) /\ f i = some r := by
 cases x with
 | none => exact dNS h
 | some p => cases p with
  | int i => exact ⟨i, rfl, h⟩
  | _ => exact dNS h
theorem b0z {x : Option (List V × List Prop × List D)} {f : List V -> List Prop -> List D -> Option α} {r : α} (h : bL x f = some r) : ∃ v cs tp, x = some (v, cs, tp) /\ f v cs tp = some r := by
 cases x with
 | none => exact dNS h
 | some p => obtain ⟨v, cs, tp⟩ := p; exact ⟨v, cs, tp, rfl, h⟩
theorem b5e {x : List D} {f : D -> List D -> Option α} {r : α} (h : bT x f = some r) : ∃ y tp, f y tp = some r := by
 cases x with
 | nil => exact dNS h
 | cons y tp => exact ⟨y, tp, h⟩
theorem c1j {x : Option (Bool × List Prop)} {f : Bool -> List Prop -> Option α} {r : α} (h : bE x f = some r) : ∃ b cs, x = some (b, cs) /\ f b cs = some r := by
 cases x with
 | none => exact dNS h
 | some p => exact ⟨p.1, p.2, rfl, h⟩
theorem a1h {x : Option β} {f : β -> Option α} {r : α} (h : bO x f = some r) : ∃ b, x = some b /\ f b = some r := by
 cases x with
 | none => exact dNS h
 | some p => exact ⟨p, rfl, h⟩
theorem b5f {b : Bool} {x : Option α} {r : α} (h : bW b x = some r) : b = true /\ x = some r := by
 cases b with
 | false => exact dNS h
 | true => exact ⟨rfl, h⟩
theorem bX_some {e : CE} {x : Option {n : Int // e = .int n}} {f : Int -> Option α} {y : Option α} {r : α} (h : bX x f y = some r) : (∃ n, e = .int n /\ f n = some r) ∨ y = some r := by
 cases x with
 | none => exact .inr h
 | some n => exact .inl ⟨n.1, n.2, h⟩
end
theorem a0w {v v' : V} {cs cs' : List Prop} {tp tp' : List D} (h : some (v, cs, tp) = some (v', cs', tp')) : v = v' /\ cs = cs' := by cases h; exact ⟨rfl, rfl⟩
section
variable {W : World0} {k : Nat} {σ : List O} {ρ : List (Option V)} {cs cs' : List Prop} {tp tp' : List D}
theorem c9m {op : Operator} {va vb : V} {a b : Int} {v : V} (ha : a0h σ va = some (.int a)) (hb : a0h σ vb = some (.int b)) (h : pint op a b cs tp = some (v, cs', tp')) (hc : AllP cs') : AllP cs /\ ∃ r, v = .d r /\ BinV op σ va vb r := by
 cases op with
 | Add => obtain ⟨rfl, rfl⟩ := a0w h; exact ⟨hc, _, rfl, .int ha hb rfl trivial⟩
 | Sub => obtain ⟨rfl, rfl⟩ := a0w h; exact ⟨hc, _, rfl, .int ha hb rfl trivial⟩
 | Mult => obtain ⟨rfl, rfl⟩ := a0w h; exact ⟨hc.2, _, rfl, .int ha hb rfl hc.1⟩
 | FloorDiv => obtain ⟨rfl, rfl⟩ := a0w h; exact ⟨hc.2, _, rfl, .int ha hb rfl hc.1⟩
 | Mod => obtain ⟨rfl, rfl⟩ := a0w h; exact ⟨hc.2, _, rfl, .int ha hb rfl hc.1⟩
 | _ => exact dNS h
theorem c9n {op : Operator} {va vb : V} {v : V} (h : padd op (lstV σ va) (lstV σ vb) cs tp = some (v, cs', tp')) (hc : AllP cs') : AllP cs /\ ∃ r, v = .d r /\ BinV op σ va vb r := by
 cases op with
 | Add =>
  refine xEA (a1h (x := lstV σ va) h) fun l e1 h => ?_
  refine xEA (a1h h) fun l' e2 h => ?_
  obtain ⟨rfl, rfl⟩ := a0w h; exact ⟨hc.2, _, rfl, .addL e1 e2 hc.1⟩
 | _ => exact cNS h
theorem c9o {op : Operator} {va vb : V} {v : V} (h : pbin op σ va vb cs tp = some (v, cs', tp')) (hc : AllP cs') : AllP cs /\ ∃ r, v = .d r /\ BinV op σ va vb r := by
 unfold pbin at h
 cases e : a0h σ va with
 | none => rw [e] at h; exact dNS h
 | some x =>
  rw [e] at h
  cases x with
  | int a => refine xEA (a2v h) fun b hb h => ?_; exact c9m e hb h hc
  | lst l => exact c9n h hc
  | _ => exact dNS h
theorem b6y {va vb : V} {b : Bool} (h : peq (a0h σ va) (a0h σ vb) cs = some (b, cs')) (hc : AllP cs') : AllP cs /\ CmpV .Eq σ va vb b /\ CmpV .NotEq σ va vb !b := by
 have key : ∀ {x y : D}, a0h σ va = some x -> a0h σ vb = some y -> some (eqD x y, (a0q x = true /\ a0q y = true /\ dep x <= 200) :: cs) = some (b, cs') -> AllP cs /\ CmpV .Eq σ va vb b /\ CmpV .NotEq σ va vb !b := by
  intro x y ea eb e
  cases e
  exact ⟨hc.2, .eq ea eb hc.1.1 hc.1.2.1 hc.1.2.2, .ne ea eb hc.1.1 hc.1.2.1 hc.1.2.2⟩
 cases ea : a0h σ va with
 | none => rw [ea] at h; exact dNS h
 | some x => cases eb : a0h σ vb with
  | none => rw [ea, eb] at h; cases x <;> exact dNS h
  | some y =>
   rw [ea, eb] at h
   cases x with
   | int i => cases y with
    | int j => cases h; exact ⟨hc, .eq ea eb rfl rfl (Nat.zero_le _), .ne ea eb rfl rfl (Nat.zero_le _)⟩
    | _ => exact key ea eb h
   | _ => exact key ea eb h
theorem c7n {va vb : V} {b : Bool} (h : pis (a0h σ va) vb = some b) : CmpV .Is σ va vb b /\ CmpV .IsNot σ va vb !b := by
 cases vb with
 | d y => cases y with
  | none => cases ea : a0h σ va with
   | none => rw [ea] at h; exact dNS h
   | some x =>
    rw [ea] at h
    cases x with
    | fn f => exact dNS h
    | none => cases h; exact ⟨.isN ea (by intro f hf; cases hf), .isNotN ea (by intro f hf; cases hf)⟩
    | _ => cases h; exact ⟨.isN ea (by intro f hf; cases hf), .isNotN ea (by intro f hf; cases hf)⟩
  | _ => exact dNS h
 | _ => exact dNS h
theorem c9p {op : CmpOp} {va vb : V} {v : V} (h : pcmp op σ va vb cs tp = some (v, cs', tp')) (hc : AllP cs') : AllP cs /\ ∃ r, v = .d (.bool r) /\ CmpV op σ va vb r := by
 cases op with
 | Lt => refine xEA (a2v h) fun a ha h => ?_; refine xEA (a2v h) fun b hb h => ?_; obtain ⟨rfl, rfl⟩ := a0w h; exact ⟨hc, _, rfl, .lt ha hb⟩
 | LtE => refine xEA (a2v h) fun a ha h => ?_; refine xEA (a2v h) fun b hb h => ?_; obtain ⟨rfl, rfl⟩ := a0w h; exact ⟨hc, _, rfl, .le ha hb⟩
 | Gt => refine xEA (a2v h) fun a ha h => ?_; refine xEA (a2v h) fun b hb h => ?_; obtain ⟨rfl, rfl⟩ := a0w h; exact ⟨hc, _, rfl, .gt ha hb⟩
 | GtE => refine xEA (a2v h) fun a ha h => ?_; refine xEA (a2v h) fun b hb h => ?_; obtain ⟨rfl, rfl⟩ := a0w h; exact ⟨hc, _, rfl, .ge ha hb⟩
 | Eq => refine xEEA (c1j h) fun b c he h => ?_; obtain ⟨rfl, rfl⟩ := a0w h; exact ⟨(b6y he hc).1, _, rfl, (b6y he hc).2.1⟩
 | NotEq => refine xEEA (c1j h) fun b c he h => ?_; obtain ⟨rfl, rfl⟩ := a0w h; exact ⟨(b6y he hc).1, _, rfl, (b6y he hc).2.2⟩
 | Is => refine xEA (a1h h) fun b he h => ?_; obtain ⟨rfl, rfl⟩ := a0w h; exact ⟨hc, _, rfl, (c7n he).1⟩
 | IsNot => refine xEA (a1h h) fun b he h => ?_; obtain ⟨rfl, rfl⟩ := a0w h; exact ⟨hc, _, rfl, (c7n he).2⟩
 | _ => exact dNS h
set_option tactic.hygienic true in
theorem c9q {va : V} {i : Int} {v : V} (h : plit σ va i = some v) : SubV σ va (.d (.int i)) v := by
 unfold plit at h
 cases e : seqV σ va with
 | none => rw [e] at h; cases i <;> exact dNS h
 | some p =>
  obtain ⟨b, l⟩ := p
  rw [e] at h
  cases i with
  | negSucc n => exact dNS h
  | ofNat n =>
   simp only [] at h
   split at h
   ·rename_i hb
    have hn : n < 1000 := Nat.le_of_ble_eq_true hb
    refine .seq e rfl (j := n) ?_ h ⟨by simp only [Int.ofNat_eq_natCast]; omega, by simp only [Int.ofNat_eq_natCast]; omega⟩
    have hl := (List.getElem?_eq_some_iff.mp h).1
    unfold seqIndex?
    have : ¬ (Int.ofNat n) < 0 := by simp only [Int.ofNat_eq_natCast]; exact om20
    simp only [this, if_false]
    rw [if_pos (by simp only [Int.ofNat_eq_natCast, Bool.and_eq_true, decide_eq_true_eq]; exact om21 hl)]
    simp
   ·exact dNS h
theorem a8f : ∀ {vs : List V} {l : List D}, dsOf vs = some l -> vs = l.map V.d
 | [], l, h => by cases h; rfl
 | .d x :: vs, l, h => by refine xEA (a1h h) fun l' e h => ?_; cases h; erw [a8f e]; rfl
 | .a x :: vs, l, h => by exact dNS h
 | .r x :: vs, l, h => by exact dNS h
 | .t x :: vs, l, h => by exact dNS h
theorem a5n : ∀ {vs args : List V}, c5r σ vs = some args -> ArgsOk σ vs args
 | [], l, h => by cases h; exact .nil
 | .d x :: vs, l, h => by refine xEA (a1h h) fun l' e h => ?_; cases h; exact .cons (.d x) (a5n e)
 | .a x :: vs, l, h => by refine xEA (a1h h) fun y e' h => ?_; refine xEA (a1h h) fun l' e h => ?_; cases h; exact .cons (.a e') (a5n e)
 | .r x :: vs, l, h => by refine xEA (a1h h) fun y e' h => ?_; refine xEA (a1h h) fun l' e h => ?_; cases h; exact .cons (.a e') (a5n e)
 | .t x :: vs, l, h => by refine xEA (a1h h) fun y e' h => ?_; refine xEA (a1h h) fun l' e h => ?_; cases h; exact .cons (.a e') (a5n e)
end
end Mine
end
section
open PySem PyProof.Rows
namespace Mine
noncomputable def TEv (W : World0) (k : Nat) (e : CE) (ρ : List (Option V)) (σ : List O) (v : V) : Prop := TE W k e ρ σ fun v' σ' => v' = v /\ σ' = σ
noncomputable def TCv (W : World0) (k : Nat) (e : CE) (ρ : List (Option V)) (σ : List O) (b : Bool) : Prop := TC W k e ρ σ fun b' σ' => b' = b /\ σ' = σ
section
variable {W : World0} {k : Nat} {σ : List O} {ρ : List (Option V)}
theorem TEv.to {e : CE} {v : V} {Q : V -> List O -> Prop} (t : TEv W k e ρ σ v) (q : Q v σ) : TE W k e ρ σ Q := t.mono fun a b h => by erw [h.1, h.2]; exact q
theorem TCv.to {e : CE} {v : Bool} {Q : Bool -> List O -> Prop} (t : TCv W k e ρ σ v) (q : Q v σ) : TC W k e ρ σ Q := t.mono fun a b h => by erw [h.1, h.2]; exact q
theorem TEs.mono : ∀ {es : List CE} {σ : List O} {Q Q' : List V -> List O -> Prop}, TEs W k es ρ σ Q -> (∀ v σ, Q v σ -> Q' v σ) -> TEs W k es ρ σ Q'
 | [], _, _, _, t, h => h _ _ t
 | e :: es, _, _, _, t, h => TE.mono (e := e) t fun v σ' t' => TEs.mono (es := es) t' fun vs σ'' q => h _ _ q
noncomputable def TEsv (W : World0) (k : Nat) (es : List CE) (ρ : List (Option V)) (σ : List O) (vs : List V) : Prop := TEs W k es ρ σ fun v' σ' => v' = vs /\ σ' = σ
theorem TEsv.to {es : List CE} {v : List V} {Q : List V -> List O -> Prop} (t : TEsv W k es ρ σ v) (q : Q v σ) : TEs W k es ρ σ Q := t.mono fun a b h => by erw [h.1, h.2]; exact q
theorem TEsv.cons {e : CE} {es : List CE} {v : V} {vs : List V} (t : TEv W k e ρ σ v) (t' : TEsv W k es ρ σ vs) : TEsv W k (e :: es) ρ σ (v :: vs) :=
 t.to (Q := fun v σ' => TEs W k es ρ σ' fun vs' σ'' => v :: vs' = _ /\ σ'' = σ) (t'.to ⟨rfl, rfl⟩)
theorem TEv.call {f : String} {es : List CE} {vs args : List V} {x : D} (hne : es ≠ []) (t : TEsv W k es ρ σ vs) (ha : ArgsOk σ vs args) (s : Spec W k f args x) : TEv W k (.call f es) ρ σ (.d x) := by
 obtain ⟨cf, hf, F⟩ := s
 exact TE.call hf hne (t.to ⟨args, _, ha, F, fun r h => ⟨congrArg V.d h, rfl⟩⟩)
theorem TEv.bin {op : Operator} {a b : CE} {va vb : V} {r : D} (ta : TEv W k a ρ σ va) (tb : TEv W k b ρ σ vb) (h : BinV op σ va vb r) : TEv W k (.bin op a b) ρ σ (.d r) := TE.bin (ta.to (tb.to ⟨r, h, rfl, rfl⟩))
theorem TEv.cmp {op : CmpOp} {a b : CE} {va vb : V} {r : Bool} (ta : TEv W k a ρ σ va) (tb : TEv W k b ρ σ vb) (h : CmpV op σ va vb r) : TEv W k (.cmp op a b) ρ σ (.d (.bool r)) := TE.cmp (ta.to (tb.to ⟨r, h, rfl, rfl⟩))
theorem TCv.cmp {op : CmpOp} {a b : CE} {va vb : V} {r : Bool} (ta : TEv W k a ρ σ va) (tb : TEv W k b ρ σ vb) (h : CmpV op σ va vb r) : TCv W k (.cmp op a b) ρ σ r := TC.cmp (ta.to (tb.to ⟨r, h, rfl, rfl⟩))
theorem TEv.sub {a b : CE} {va vb : V} {r : V} (ta : TEv W k a ρ σ va) (tb : TEv W k b ρ σ vb) (h : SubV σ va vb r) : TEv W k (.sub a b) ρ σ r := TE.sub (ta.to (tb.to ⟨r, h, rfl, rfl⟩))
theorem TEv.and {a b : CE} {l : List CE} {x y : Bool} (ta : TEv W k a ρ σ (.d (.bool x))) (tb : TEv W k (.and (b :: l)) ρ σ (.d (.bool y))) : TEv W k (.and (a :: b :: l)) ρ σ (.d (.bool (x && y))) :=
 TE.and (ta.to ⟨x, rfl, by cases x with | true => exact tb | false => exact ⟨rfl, rfl⟩⟩)
theorem TEv.or {a b : CE} {l : List CE} {x y : Bool} (ta : TEv W k a ρ σ (.d (.bool x))) (tb : TEv W k (.or (b :: l)) ρ σ (.d (.bool y))) : TEv W k (.or (a :: b :: l)) ρ σ (.d (.bool (x || y))) :=
 TE.or (ta.to ⟨x, rfl, by cases x with | false => exact tb | true => exact ⟨rfl, rfl⟩⟩)
theorem TCv.and {a : CE} {l : List CE} {x y : Bool} (ta : TCv W k a ρ σ x) (tb : TCv W k (.and l) ρ σ y) : TCv W k (.and (a :: l)) ρ σ (x && y) :=
 TC.and (ta.to (by cases x with | true => exact tb | false => exact ⟨rfl, rfl⟩))
theorem TCv.or {a : CE} {l : List CE} {x y : Bool} (ta : TCv W k a ρ σ x) (tb : TCv W k (.or l) ρ σ y) : TCv W k (.or (a :: l)) ρ σ (x || y) :=
 TC.or (ta.to (by cases x with | false => exact tb | true => exact ⟨rfl, rfl⟩))
theorem TCv.of {e : CE} {b : Bool} (t : TEv W k e ρ σ (.d (.bool b))) (hp : a3k e = true) : TCv W k e ρ σ b := TC.of (t.to ⟨b, rfl, rfl, rfl⟩) hp
inductive PvOk (W : World0) (k : Nat) (σ : List O) (ρ : List (Option V)) (e : CE) (cs : List Prop) (v : V) : Prop
 | mk (h1 : AllP cs) (h2 : TEv W k e ρ σ v) (h3 : ∀ b, v = .d (.bool b) -> TCv W k e ρ σ b) : PvOk W k σ ρ e cs v
theorem PvOk.plain {e : CE} {cs : List Prop} {v : V} (h1 : AllP cs) (h2 : TEv W k e ρ σ v) (hp : a3k e = true) : PvOk W k σ ρ e cs v := ⟨h1, h2, fun b hb => .of (hb ▸ h2) hp⟩
theorem c9r : TCv W k (.and []) ρ σ true := TC.andNil ⟨rfl, rfl⟩
theorem c7o : TCv W k (.or []) ρ σ false := TC.orNil ⟨rfl, rfl⟩
theorem fall {e : CE} {v : V} {cs cs' : List Prop} {tp tp' : List D} (hp : a3k e = true) (h : bT tp (fun x tp => some (V.d x, TEq W k e ρ σ x :: cs, tp)) = some (v, cs', tp')) (hc : AllP cs') : PvOk W k σ ρ e cs v := by
 refine xEE (b5e h) fun y tp h => ?_; obtain ⟨rfl, rfl⟩ := a0w h; exact .plain hc.2 hc.1 hp
theorem PvOk.bools {e : CE} {cs : List Prop} {b : Bool} (h1 : AllP cs) (h2 : TEv W k e ρ σ (.d (.bool b))) (h3 : TCv W k e ρ σ b) : PvOk W k σ ρ e cs (.d (.bool b)) := ⟨h1, h2, fun c hc => by cases hc; exact h3⟩
theorem c9s {n : Nat} (h : Nat.ble n 100 = true) : n <= 16777216 := Nat.le_trans (Nat.le_of_ble_eq_true h) (by decide)
theorem pvs_ne (es : List CE) {cs cs' : List Prop} {tp tp' : List D} {v : List V} (h : pvs W k σ ρ es cs tp = some (v, cs', tp')) (hn : (!v.isEmpty) = true) : es ≠ [] := by
 rintro rfl
 cases h; exact dFT hn
set_option tactic.hygienic true in
mutual
theorem a4g : ∀ (e : CE) {cs cs' : List Prop} {tp tp' : List D} {v : V}, pv W k σ ρ e cs tp = some (v, cs', tp') -> AllP cs' -> PvOk W k σ ρ e cs v
 | .int i, _, _, _, _, _, h, hc => by obtain ⟨rfl, rfl⟩ := a0w h; exact .plain hc (TE.int ⟨rfl, rfl⟩) rfl
 | .bool i, _, _, _, _, _, h, hc => by obtain ⟨rfl, rfl⟩ := a0w h; exact .plain hc (TE.bool ⟨rfl, rfl⟩) rfl
 | .none, _, _, _, _, _, h, hc => by obtain ⟨rfl, rfl⟩ := a0w h; exact .plain hc (TE.none ⟨rfl, rfl⟩) rfl
 | .str i, _, _, _, _, _, h, hc => by obtain ⟨rfl, rfl⟩ := a0w h; exact .plain hc (TE.str ⟨rfl, rfl⟩) rfl
 | .var i, _, _, _, _, _, h, hc => by refine xEA (a1h h) fun b e h => ?_; obtain ⟨b, rfl, h⟩ := a1h h; obtain ⟨rfl, rfl⟩ := a0w h; exact .plain hc (TE.var e ⟨rfl, rfl⟩) rfl
 | .bin op a b, _, _, _, _, _, h, hc => by
  refine a2z (a3m h) fun va c1 t1 ha h => ?_
  refine a2z (a3m h) fun vb c2 t2 hb h => ?_
  obtain ⟨h1, r, rfl, h2⟩ := c9o h hc
  obtain ⟨h1, tb, _⟩ := a4g b hb h1
  obtain ⟨h1, ta, _⟩ := a4g a ha h1
  exact .plain h1 (.bin ta tb h2) rfl
 | .cmp op a b, _, _, _, _, _, h, hc => by
  refine a2z (a3m h) fun va c1 t1 ha h => ?_
  refine a2z (a3m h) fun vb c2 t2 hb h => ?_
  obtain ⟨h1, r, rfl, h2⟩ := c9p h hc
  obtain ⟨h1, tb, _⟩ := a4g b hb h1
  obtain ⟨h1, ta, _⟩ := a4g a ha h1
  exact .bools h1 (.cmp ta tb h2) (.cmp ta tb h2)
 | .neg a, _, _, _, _, _, h, hc => by
  refine a2z (a3m h) fun va c1 t1 ha h => ?_
  refine xEA (a2v h) fun i hi h => ?_
  obtain ⟨rfl, rfl⟩ := a0w h
  obtain ⟨h1, ta, _⟩ := a4g a ha hc
  exact .plain h1 (TE.neg (ta.to ⟨i, hi, rfl, rfl⟩)) rfl
 | .not a, _, _, _, _, _, h, hc => by
  refine a2z (a4r h) fun b c1 t1 ha h => ?_
  obtain ⟨rfl, rfl⟩ := a0w h
  obtain ⟨h1, ta, tc⟩ := a4g a ha hc
  exact .bools h1 (TE.not (ta.to ⟨b, rfl, rfl, rfl⟩)) (TC.not ((tc b rfl).to ⟨rfl, rfl⟩))
 | .and l, _, _, _, _, _, h, hc => c7p l h hc
 | .or l, _, _, _, _, _, h, hc => c7q l h hc
 | .tup l, _, _, _, _, _, h, hc => by
  refine a2z (b0z h) fun va c1 t1 ha h => ?_
  refine xEA (a1h h) fun ds hd h => ?_
  obtain ⟨hl, h⟩ := b5f h
  obtain ⟨rfl, rfl⟩ := a0w h
  obtain ⟨h1, ts⟩ := b3d l ha hc
  exact .plain h1 (TE.tup (ts.to ⟨ds, a8f hd, c9s hl, rfl, rfl⟩)) rfl
 | .lst l, _, _, _, _, _, h, hc => by
  refine a2z (b0z h) fun va c1 t1 ha h => ?_
  refine xEA (a1h h) fun ds hd h => ?_
  obtain ⟨hl, h⟩ := b5f h
  obtain ⟨rfl, rfl⟩ := a0w h
  obtain ⟨h1, ts⟩ := b3d l ha hc
  exact .plain h1 (TE.lst (ts.to ⟨ds, a8f hd, c9s hl, rfl, rfl⟩)) rfl
 | .sub a i, _, _, _, _, _, h, hc => by
  refine a2z (a3m h) fun va c1 t1 ha h => ?_
  rcases bX_some h with ⟨n, hn, h⟩ | h
  ·refine xEA (a1h h) fun x hx h => ?_
   obtain ⟨rfl, rfl⟩ := a0w h
   obtain ⟨h1, ta, _⟩ := a4g a ha hc
   exact .plain h1 (.sub ta (hn ▸ TE.int ⟨rfl, rfl⟩) (c9q hx)) rfl
  ·refine a2z (a3m h) fun vi c2 t2 hi h => ?_
   refine xEE (b5e h) fun y tp h => ?_
   obtain ⟨rfl, rfl⟩ := a0w h
   obtain ⟨h1, ti, _⟩ := a4g i hi hc.2
   obtain ⟨h1, ta, _⟩ := a4g a ha h1
   exact .plain h1 (.sub ta ti hc.1) rfl
 | .call f l, _, _, _, _, _, h, hc => by
  refine a2z (b0z h) fun va c1 t1 ha h => ?_
  refine xEA (a1h h) fun args hd h => ?_
  obtain ⟨hne, h⟩ := b5f h
  refine xEE (b5e h) fun y tp h => ?_
  obtain ⟨rfl, rfl⟩ := a0w h
  obtain ⟨h1, ts⟩ := b3d l ha hc.2
  exact .plain h1 (.call (pvs_ne l ha hne) ts (a5n hd) hc.1) rfl
 | .gv f, _, _, _, _, _, h, hc => fall rfl h hc
 | .cmp2 _ _ _ _ _, _, _, _, _, _, h, hc => by exact dNS h
 | .ite _ _ _, _, _, _, _, _, h, hc => by exact dNS h
 | .dct0, _, _, _, _, _, h, hc => fall rfl h hc
 | .dct1 _ _, _, _, _, _, _, h, hc => fall rfl h hc
 | .slice _ _ _, _, _, _, _, _, h, hc => fall rfl h hc
 | .callv _ _, _, _, _, _, _, h, hc => fall rfl h hc
 | .prim _ _, _, _, _, _, _, h, hc => fall rfl h hc
 | .isi _ _, _, _, _, _, _, h, hc => fall rfl h hc
 | .meth _ _ _, _, _, _, _, _, h, hc => fall rfl h hc
 | .comp _ _ _ _ _, _, _, _, _, _, h, hc => fall rfl h hc
 | .lam _ _, _, _, _, _, _, h, hc => fall rfl h hc
theorem b3d : ∀ (es : List CE) {cs cs' : List Prop} {tp tp' : List D} {v : List V}, pvs W k σ ρ es cs tp = some (v, cs', tp') -> AllP cs' -> AllP cs /\ TEsv W k es ρ σ v
 | [], _, _, _, _, _, h, hc => by cases h; exact ⟨hc, rfl, rfl⟩
 | e :: es, _, _, _, _, _, h, hc => by
  refine a2z (a3m h) fun v c1 t1 ha h => ?_
  refine a2z (b0z h) fun vs c2 t2 hb h => ?_
  cases h
  obtain ⟨h1, ts⟩ := b3d es hb hc
  obtain ⟨h1, t, _⟩ := a4g e ha h1
  exact ⟨h1, .cons t ts⟩
theorem c7p : ∀ (es : List CE) {cs cs' : List Prop} {tp tp' : List D} {v : V}, pvA W k σ ρ es cs tp = some (v, cs', tp') -> AllP cs' -> PvOk W k σ ρ (.and es) cs v
 | [], _, _, _, _, _, h, hc => by exact dNS h
 | [e], _, _, _, _, _, h, hc => by
  refine a2z (a4r h) fun b c1 t1 ha h => ?_
  obtain ⟨rfl, rfl⟩ := a0w h
  obtain ⟨h1, t, tc⟩ := a4g e ha hc
  exact .bools h1 (TE.and1 t) (by have := TCv.and (tc b rfl) c9r; rwa [Bool.and_true] at this)
 | e :: e' :: es, _, _, _, _, _, h, hc => by
  refine a2z (a4r h) fun b c1 t1 ha h => ?_
  refine a2z (a4r h) fun c c2 t2 hb h => ?_
  obtain ⟨rfl, rfl⟩ := a0w h
  obtain ⟨h1, t, tc⟩ := c7p (e' :: es) hb hc
  obtain ⟨h1, t', tc'⟩ := a4g e ha h1
  exact .bools h1 (.and t' t) (.and (tc' b rfl) (tc c rfl))
theorem c7q : ∀ (es : List CE) {cs cs' : List Prop} {tp tp' : List D} {v : V}, pvO W k σ ρ es cs tp = some (v, cs', tp') -> AllP cs' -> PvOk W k σ ρ (.or es) cs v
 | [], _, _, _, _, _, h, hc => by exact dNS h
 | [e], _, _, _, _, _, h, hc => by
  refine a2z (a4r h) fun b c1 t1 ha h => ?_
  obtain ⟨rfl, rfl⟩ := a0w h
  obtain ⟨h1, t, tc⟩ := a4g e ha hc
  exact .bools h1 (TE.or1 t) (by have := TCv.or (tc b rfl) c7o; rwa [Bool.or_false] at this)
 | e :: e' :: es, _, _, _, _, _, h, hc => by
  refine a2z (a4r h) fun b c1 t1 ha h => ?_
  refine a2z (a4r h) fun c c2 t2 hb h => ?_
  obtain ⟨rfl, rfl⟩ := a0w h
  obtain ⟨h1, t, tc⟩ := c7q (e' :: es) hb hc
  obtain ⟨h1, t', tc'⟩ := a4g e ha h1
  exact .bools h1 (.or t' t) (.or (tc' b rfl) (tc c rfl))
end
end
end Mine
end
section
open PySem PyProof.Rows
namespace Mine
noncomputable def lp (Inv : Nat -> List (Option V) -> List O -> Prop) (j : Nat) (Q : Out -> List (Option V) -> List O -> Prop) : Out -> List (Option V) -> List O -> Prop
 | .next, ρ, σ => Inv (j + 1) ρ σ
 | .ret v, ρ, σ => Q (.ret v) ρ σ
noncomputable def retQ (r : D) : Out -> List (Option V) -> List O -> Prop := fun out ζ σ' => outD σ' out = some r
section
variable {W : World0} {k : Nat} {σ : List O} {ρ : List (Option V)} {tape : List D} {cs : List Prop} {Q : Out -> List (Option V) -> List O -> Prop} {ss : List CS}
theorem Spec.intro {f : String} {cf : CF} {args : List V} {r : D} (hf : HasF W f cf) (hlen : args.length = cf.nparams) (t : TS W k cf.body (args.map some ++ List.replicate (cf.nvars - cf.nparams) none) [] (retQ r)) : Spec W (k + 1) f args r :=
 ⟨cf, hf, Fun.intro hf hlen (t.mono fun o a b h => ⟨r, h, rfl⟩)⟩
theorem TE.ev {e : CE} {v : V} {Q : V -> List O -> Prop} (h : pv W k σ ρ e [] tape = some (v, cs, [])) (hc : AllP cs) (q : Q v σ) : TE W k e ρ σ Q := by
 obtain ⟨_, t, _⟩ := a4g e h hc
 exact t.to q
theorem TEq.ev {e : CE} {x : D} (h : pv W k σ ρ e [] tape = some (.d x, cs, [])) (hc : AllP cs) : TEq W k e ρ σ x := TE.ev h hc ⟨rfl, rfl⟩
theorem TC.ev {e : CE} {b : Bool} {Q : Bool -> List O -> Prop} (h : pv W k σ ρ e [] tape = some (.d (.bool b), cs, [])) (hc : AllP cs) (q : Q b σ) : TC W k e ρ σ Q := by
 obtain ⟨_, _, t⟩ := a4g e h hc
 exact (t b rfl).to q
theorem TEq.to {e : CE} {x : D} {Q : V -> List O -> Prop} (t : TEq W k e ρ σ x) (q : Q (.d x) σ) : TE W k e ρ σ Q := t.mono fun a b h => by erw [h.1, h.2]; exact q
theorem TS.asgV {i : Nat} {e : CE} {v : V} (h : pv W k σ ρ e [] tape = some (v, cs, [])) (hc : AllP cs) (t : TS W k ss (ρ.set i (some v)) σ Q) (hn : a2u e = true := by rfl) : TS W k (.asg i e :: ss) ρ σ Q :=
 TS.cons (TS1.asg (TE.ev h hc t) hn)
theorem TS.retV {e : CE} {v : V} (h : pv W k σ ρ e [] tape = some (v, cs, [])) (hc : AllP cs) (q : Q (.ret v) ρ σ) : TS W k (.ret e :: ss) ρ σ Q :=
 TS.cons (TS1.ret (TE.ev h hc q))
theorem TS.exV {e : CE} {v : V} (h : pv W k σ ρ e [] tape = some (v, cs, [])) (hc : AllP cs) (t : TS W k ss ρ σ Q) (hn : a2u e = true := by rfl) : TS W k (.ex e :: ss) ρ σ Q :=
 TS.cons (TS1.ex (TE.ev h hc t) hn)
theorem TS.iteV {c : CE} {s t : List CS} {b : Bool} (h : pv W k σ ρ c [] tape = some (.d (.bool b), cs, [])) (hc : AllP cs) (ht : b = true -> TS W k s ρ σ (thn W k ss Q)) (hf : b = false -> TS W k t ρ σ (thn W k ss Q)) : TS W k (.ite c s t :: ss) ρ σ Q :=
 TS.cons (TS1.ite (TC.ev h hc (by cases b with | true => exact ht rfl | false => exact hf rfl)))
theorem TS.ifV {c : CE} {s : List CS} {b : Bool} (h : pv W k σ ρ c [] tape = some (.d (.bool b), cs, [])) (hc : AllP cs) (ht : b = true -> TS W k s ρ σ (thn W k ss Q)) (hf : b = false -> TS W k ss ρ σ Q) : TS W k (.ite c s [] :: ss) ρ σ Q :=
 TS.iteV h hc ht fun e => TS.nil (hf e)
theorem TS.asgTV {is : List Nat} {e : CE} {v : V} {l : List V} (h : pv W k σ ρ e [] tape = some (v, cs, [])) (hc : AllP cs) (hl : seqV σ v = some (false, l)) (hn : l.length = is.length) (t : TS W k ss (a2d ρ is l) σ Q) (hk : b6t e = true := by rfl) : TS W k (.asgT is e :: ss) ρ σ Q :=
 TS.cons (TS1.asgT (TE.ev h hc ⟨l, hl, hn, t⟩) hk)
theorem c1k {m j : Nat} {x : V} (h : ((List.range (m : Int).toNat).map fun (i : Nat) => V.d (.int (i : Int)))[j]? = some x) : j < m /\ x = .d (.int (j : Int)) := by
 rw [List.getElem?_map, Int.toNat_natCast] at h
 cases hr : (List.range m)[j]? with
 | none => rw [hr] at h; exact dNS h
 | some b =>
  rw [hr] at h
  obtain ⟨h1, h2⟩ := List.getElem?_eq_some_iff.mp hr
  rw [List.getElem_range] at h2
  subst h2; cases h
  rw [List.length_range] at h1
  exact ⟨h1, rfl⟩
theorem c1l (m : Nat) : -(2 ^ 61) < (m : Int) := Int.lt_of_lt_of_le (by decide) (Int.natCast_nonneg m)
theorem TI.rangeV (hW : WOk W) {e : CE} {m : Nat} {Q : List V -> List O -> Prop} (h : pv W k σ ρ e [] tape = some (.d (.int (m : Int)), cs, [])) (hc : AllP cs) (hm : m <= 16777216) (q : Q ((List.range (m : Int).toNat).map fun (i : Nat) => .d (.int i)) σ) : TI W k (.prim "range" [e]) ρ σ Q :=
 TI.range1 hW (TE.ev h hc ⟨m, rfl, c1l m, Int.ofNat_le.mpr hm, q⟩)
theorem TI.seqV {e : CE} {v : V} {b : Bool} {l : List V} {Q : List V -> List O -> Prop} (h : pv W k σ ρ e [] tape = some (v, cs, [])) (hc : AllP cs) (hs : Mine.seqV σ v = some (b, l)) (hn : notLive v = true) (hl : l.length <= 16777216) (q : Q l σ) : TI W k e ρ σ Q :=
 TI.seq (TE.ev h hc ⟨b, l, hs, hn, hl, q⟩)
theorem TS.forR (hW : WOk W) {i : Nat} {e : CE} {b : List CS} {m : Nat} (h : pv W k σ ρ e [] tape = some (.d (.int (m : Int)), cs, [])) (hc : AllP cs) (hm : m <= 16777216)
  (Inv : Nat -> List (Option V) -> List O -> Prop) (h0 : Inv 0 ρ σ) (turn : ∀ j ρ1 σ1, j < m -> Inv j ρ1 σ1 -> TS W k b (ρ1.set i (some (.d (.int (j : Int))))) σ1 (lp Inv j Q)) (fin : ∀ ρ1 σ1, Inv m ρ1 σ1 -> TS W k ss ρ1 σ1 Q) : TS W k (.for1 i (.prim "range" [e]) b :: ss) ρ σ Q :=
 TS.cons (TS1.for1 (TI.rangeV hW h hc hm ⟨Inv, h0, fun n x ρ1 σ1 hx hi => by
  obtain ⟨hn, rfl⟩ := c1k hx
  exact (turn n ρ1 σ1 hn hi).mono fun o a b h => by cases o with | next => exact h | ret v => exact h, fun ρ1 σ1 hi => fin ρ1 σ1 (by rw [List.length_map, List.length_range, Int.toNat_natCast] at hi; exact hi)⟩))
theorem TS.forS {i : Nat} {e : CE} {b : List CS} {v : V} {c : Bool} {l : List V} (h : pv W k σ ρ e [] tape = some (v, cs, [])) (hc : AllP cs) (hs : Mine.seqV σ v = some (c, l)) (hn : notLive v = true) (hl : l.length <= 16777216)
  (Inv : Nat -> List (Option V) -> List O -> Prop) (h0 : Inv 0 ρ σ) (turn : ∀ j x ρ1 σ1, l[j]? = some x -> Inv j ρ1 σ1 -> TS W k b (ρ1.set i (some x)) σ1 (lp Inv j Q)) (fin : ∀ ρ1 σ1, Inv l.length ρ1 σ1 -> TS W k ss ρ1 σ1 Q) : TS W k (.for1 i e b :: ss) ρ σ Q :=
 TS.cons (TS1.for1 (TI.seqV h hc hs hn hl ⟨Inv, h0, fun n x ρ1 σ1 hx hi => (turn n x ρ1 σ1 hx hi).mono fun o a b h => by cases o with | next => exact h | ret v => exact h, fin⟩))
theorem TS.forTS {is : List Nat} {e : CE} {b : List CS} {v : V} {c : Bool} {l : List V} (h : pv W k σ ρ e [] tape = some (v, cs, [])) (hc : AllP cs) (hs : Mine.seqV σ v = some (c, l)) (hn : notLive v = true) (hl : l.length <= 16777216)
  (Inv : Nat -> List (Option V) -> List O -> Prop) (h0 : Inv 0 ρ σ) (turn : ∀ j x ρ1 σ1, l[j]? = some x -> Inv j ρ1 σ1 -> ∃ xs, Mine.seqV σ1 x = some (false, xs) /\ xs.length = is.length /\ TS W k b (a2d ρ1 is xs) σ1 (lp Inv j Q)) (fin : ∀ ρ1 σ1, Inv l.length ρ1 σ1 -> TS W k ss ρ1 σ1 Q) : TS W k (.forT is e b :: ss) ρ σ Q :=
 TS.cons (TS1.forT (TI.seqV h hc hs hn hl ⟨Inv, h0, fun n x ρ1 σ1 hx hi => by
  refine xEAA (turn n x ρ1 σ1 hx hi) fun xs h1 h2 t => ?_
  exact ⟨xs, h1, h2, t.mono fun o a b h => by cases o with | next => exact h | ret v => exact h⟩, fin⟩))
theorem TS.putV {a i e : CE} {va vi ve : V} {tape2 tape3 : List D} {cs2 cs3 : List Prop} {σ' : List O} (h : pv W k σ ρ e [] tape = some (ve, cs, [])) (hc : AllP cs) (h2 : pv W k σ ρ a [] tape2 = some (va, cs2, [])) (hc2 : AllP cs2) (h3 : pv W k σ ρ i [] tape3 = some (vi, cs3, [])) (hc3 : AllP cs3)
  (hp : PutV σ va vi ve σ') (t : TS W k ss ρ σ' Q) (hn : a2u e = true := by rfl) : TS W k (.asgS a i e :: ss) ρ σ Q :=
 TS.cons (TS1.asgS (TE.ev h hc (TE.ev h2 hc2 (TE.ev h3 hc3 ⟨σ', hp, t⟩))) hn)
theorem TS.appV {i j : Nat} {e : CE} {x : D} {l : List D} (hx : ρ[i]? = some (some (.r j))) (hl : σ[j]? = some (.lst l)) (hz : l.length <= 16777216) (h : pv W k σ ρ e [] tape = some (.d x, cs, [])) (hc : AllP cs) (t : TS W k ss ρ (σ.set j (.lst (l ++ [x]))) Q) : TS W k (.ex (.meth (.var i) "append" [e]) :: ss) ρ σ Q :=
 TS.cons (TS1.ex (TE.append hx ⟨l, hl⟩ (TE.ev h hc ⟨x, l, rfl, hl, hz, t⟩)))
theorem c9t {f : Nat -> D} {g : V -> Option D} (m : Nat) (h : ∀ j, j < m -> g (.d (.int (j : Int))) = some (f j)) : ((List.range (m : Int).toNat).map fun (i : Nat) => V.d (.int (i : Int))).filterMap g = (List.range m).map f := by
 erw [Int.toNat_natCast, List.filterMap_map]
 have : ∀ l : List Nat, (∀ j ∈ l, j < m) -> l.filterMap (g ∘ fun (i : Nat) => V.d (.int (i : Int))) = l.map f := by
  intro l hl
  induction l with
  | nil => rfl
  | cons a l ih => erw [List.filterMap_cons, Function.comp_apply, h a (hl a (.head _)), ih fun j hj => hl j (.tail _ hj)]; rfl
 exact this _ fun j hj => List.mem_range.mp hj
noncomputable def vInt : V -> Nat
 | .d (.int i) => i.toNat
 | _ => 0
theorem TI.compR (hW : WOk W) {elt e : CE} {m : Nat} (f : Nat -> D) (h : pv W k σ ρ e [] tape = some (.d (.int (m : Int)), cs, [])) (hc : AllP cs) (hm : m <= 16777216) (t : ∀ j, j < m -> TEq W k elt (ρ ++ [some (.d (.int (j : Int)))]) σ (f j)) {QQ : List D -> List O -> Prop} (q : QQ ((List.range m).map f) σ) :
  TI W k (.prim "range" [e]) ρ σ fun l σ1 => ∃ g : V -> Option D, (∀ x ∈ l, b0x W k elt none ρ σ1 true 1 x fun y => y = g x) /\ QQ (l.filterMap g) σ1 :=
 TI.rangeV hW h hc hm ⟨fun v => some (f (vInt v)), fun x hx => by
  obtain ⟨j, hj, rfl⟩ := List.mem_map.mp hx
  rw [Int.toNat_natCast] at hj
  exact ⟨_, rfl, (t j (List.mem_range.mp hj)).to ⟨rfl, _, rfl, by show some (f j) = some (f (Int.toNat j)); erw [Int.toNat_natCast]⟩⟩,
  by rw [c9t m fun j ζ => by show some (f (Int.toNat j)) = some (f j); erw [Int.toNat_natCast]]; exact q⟩
theorem TEq.compR (hW : WOk W) {elt e : CE} {m : Nat} (f : Nat -> D) (h : pv W k σ ρ e [] tape = some (.d (.int (m : Int)), cs, [])) (hc : AllP cs) (hm : m <= 16777216) (t : ∀ j, j < m -> TEq W k elt (ρ ++ [some (.d (.int (j : Int)))]) σ (f j)) :
  TEq W k (.comp elt 1 true (.prim "range" [e]) none) ρ σ (.lst ((List.range m).map f)) :=
 TE.comp (TI.compR hW f h hc hm t (QQ := fun l σ1 => V.d (.lst l) = V.d (.lst ((List.range m).map f)) /\ σ1 = σ) ⟨rfl, rfl⟩)
theorem TS.asgCR (hW : WOk W) {i : Nat} {elt e : CE} {m : Nat} (f : Nat -> D) (h : pv W k σ ρ e [] tape = some (.d (.int (m : Int)), cs, [])) (hc : AllP cs) (hm : m <= 16777216) (t : ∀ j, j < m -> TEq W k elt (ρ ++ [some (.d (.int (j : Int)))]) σ (f j))
  (q : TS W k ss (ρ.set i (some (.d (.lst ((List.range m).map f))))) σ Q) : TS W k (.asg i (.comp elt 1 true (.prim "range" [e]) none) :: ss) ρ σ Q :=
 TS.cons (TS1.asgC (TI.compR hW f h hc hm t (QQ := fun l σ1 => TS W k ss (ρ.set i (some (.d (.lst l)))) σ1 Q) q))
theorem TEq.tuple (hW : WOk W) {e : CE} {l : List D} (t : TEq W k e ρ σ (.lst l)) (hl : l.length <= 16777216) : TEq W k (.prim "tuple" [e]) ρ σ (.tup l) :=
 TE.tuple1 hW (t.to ⟨l, .inl rfl, hl, rfl, rfl⟩)
theorem TEq.len (hW : WOk W) {e : CE} {v : V} {x : D} {n : Nat} (h : pv W k σ ρ e [] tape = some (v, cs, [])) (hc : AllP cs) (hv : a0h σ v = some x) (hl : lenD x = some n) (hz : n <= 16777216) : TEq W k (.prim "len" [e]) ρ σ (.int (n : Int)) :=
 TE.len hW (TE.ev h hc ⟨x, n, hv, hl, hz, rfl, rfl⟩)
theorem TEq.isi (hW : WOk W) {e : CE} {v : V} {x : D} {c : String} {b : Bool} (h : pv W k σ ρ e [] tape = some (v, cs, [])) (hc : AllP cs) (hv : a0h σ v = some x) (hi : IsiD x c b) : TEq W k (.isi e c) ρ σ (.bool b) :=
 TE.isi hW (TE.ev h hc ⟨x, b, hv, hi, rfl, rfl⟩)
end
end Mine
end
section
open PySem PyProof.Rows
namespace Mine
section
variable {W : World0} {k : Nat} {σ : List O} {ρ : List (Option V)} {tape : List D} {cs : List Prop} {Q : Out -> List (Option V) -> List O -> Prop} {ss : List CS}
theorem TS.iteT {c : CE} {s t : List CS} {b : Bool} (h : pv W k σ ρ c [] tape = some (.d (.bool b), cs, [])) (hc : AllP cs) (hb : b = true) (ht : TS W k s ρ σ (thn W k ss Q)) : TS W k (.ite c s t :: ss) ρ σ Q :=
 TS.iteV h hc (fun ζ => ht) fun e => ff (e.symm.trans hb)
theorem TS.iteF {c : CE} {s t : List CS} {b : Bool} (h : pv W k σ ρ c [] tape = some (.d (.bool b), cs, [])) (hc : AllP cs) (hb : b = false) (ht : TS W k t ρ σ (thn W k ss Q)) : TS W k (.ite c s t :: ss) ρ σ Q :=
 TS.iteV h hc (fun e => ff (hb.symm.trans e)) fun ζ => ht
theorem TS.ifF {c : CE} {s : List CS} {b : Bool} (h : pv W k σ ρ c [] tape = some (.d (.bool b), cs, [])) (hc : AllP cs) (hb : b = false) (ht : TS W k ss ρ σ Q) : TS W k (.ite c s [] :: ss) ρ σ Q :=
 TS.iteF h hc hb (TS.nil ht)
theorem TI.compS {elt e : CE} {v : V} {b : Bool} {l : List D} (f : D -> D) (h : pv W k σ ρ e [] tape = some (v, cs, [])) (hc : AllP cs) (hs : Mine.seqV σ v = some (b, l.map V.d)) (hn : notLive v = true) (hl : l.length <= 16777216) (t : ∀ x ∈ l, TEq W k elt (ρ ++ [some (.d x)]) σ (f x)) {QQ : List D -> List O -> Prop} (q : QQ (l.map f) σ) :
  TI W k e ρ σ fun l σ1 => ∃ g : V -> Option D, (∀ x ∈ l, b0x W k elt none ρ σ1 true 1 x fun y => y = g x) /\ QQ (l.filterMap g) σ1 :=
 TI.seqV h hc hs hn (by erw [List.length_map]; exact hl) ⟨fun v => match v with | .d x => some (f x) | _ => none, fun x hx => by
  obtain ⟨j, hj, rfl⟩ := List.mem_map.mp hx
  exact ⟨_, rfl, (t j hj).to ⟨rfl, _, rfl, rfl⟩⟩, by
  erw [List.filterMap_map]
  exact (List.filterMap_eq_map (f := f)).symm ▸ q⟩
theorem TEq.compS {elt e : CE} {v : V} {b : Bool} {l : List D} (f : D -> D) (h : pv W k σ ρ e [] tape = some (v, cs, [])) (hc : AllP cs) (hs : Mine.seqV σ v = some (b, l.map V.d)) (hn : notLive v = true) (hl : l.length <= 16777216) (t : ∀ x ∈ l, TEq W k elt (ρ ++ [some (.d x)]) σ (f x)) :
  TEq W k (.comp elt 1 true e none) ρ σ (.lst (l.map f)) :=
 TE.comp (TI.compS f h hc hs hn hl t (QQ := fun l' σ1 => V.d (.lst l') = V.d (.lst (l.map f)) /\ σ1 = σ) ⟨rfl, rfl⟩)
theorem a5o {f : D -> D} {p : D -> Bool} : ∀ l : List D, (l.map V.d).filterMap (fun v => match v with | .d x => (match p x with | true => some (f x) | false => none) | _ => none) = (l.filter p).map f
 | [] => rfl
 | x :: l => by
  erw [List.map_cons, List.filterMap_cons, List.filter_cons]
  cases e : p x with
  | true => simp only [e]; erw [a5o l]; rfl
  | false => simp only [e]; exact a5o l
theorem TI.compF {elt e c : CE} {v : V} {b : Bool} {l : List D} (p : D -> Bool) (f : D -> D) (h : pv W k σ ρ e [] tape = some (v, cs, [])) (hc : AllP cs) (hs : Mine.seqV σ v = some (b, l.map V.d)) (hn : notLive v = true) (hl : l.length <= 16777216) (tc : ∀ x ∈ l, TCv W k c (ρ ++ [some (.d x)]) σ (p x)) (t : ∀ x ∈ l, p x = true -> TEq W k elt (ρ ++ [some (.d x)]) σ (f x)) {QQ : List D -> List O -> Prop} (q : QQ ((l.filter p).map f) σ) :
  TI W k e ρ σ fun l σ1 => ∃ g : V -> Option D, (∀ x ∈ l, b0x W k elt (some c) ρ σ1 true 1 x fun y => y = g x) /\ QQ (l.filterMap g) σ1 :=
 TI.seqV h hc hs hn (by erw [List.length_map]; exact hl) ⟨fun v => match v with | .d x => (match p x with | true => some (f x) | false => none) | _ => none, fun x hx => by
  obtain ⟨j, hj, rfl⟩ := List.mem_map.mp hx
  refine ⟨_, rfl, (tc j hj).to ⟨rfl, ?_⟩⟩
  cases e : p j with
  | true => exact (t j hj e).to ⟨rfl, _, rfl, by simp only [e]⟩
  | false => simp only [e]; trivial, by erw [a5o]; exact q⟩
theorem TEq.compF {elt e c : CE} {v : V} {b : Bool} {l : List D} (p : D -> Bool) (f : D -> D) (h : pv W k σ ρ e [] tape = some (v, cs, [])) (hc : AllP cs) (hs : Mine.seqV σ v = some (b, l.map V.d)) (hn : notLive v = true) (hl : l.length <= 16777216) (tc : ∀ x ∈ l, TCv W k c (ρ ++ [some (.d x)]) σ (p x)) (t : ∀ x ∈ l, p x = true -> TEq W k elt (ρ ++ [some (.d x)]) σ (f x)) :
  TEq W k (.comp elt 1 true e (some c)) ρ σ (.lst ((l.filter p).map f)) :=
 TE.comp (TI.compF p f h hc hs hn hl tc t (QQ := fun l' σ1 => V.d (.lst l') = V.d (.lst ((l.filter p).map f)) /\ σ1 = σ) ⟨rfl, rfl⟩)
theorem TCv.ev {e : CE} {b : Bool} (h : pv W k σ ρ e [] tape = some (.d (.bool b), cs, [])) (hc : AllP cs) : TCv W k e ρ σ b := TC.ev h hc ⟨rfl, rfl⟩
theorem TEq.all (hW : WOk W) {e : CE} {bs : List Bool} (t : TEq W k e ρ σ (.lst (bs.map .bool))) : TEq W k (.prim "all" [e]) ρ σ (.bool (bs.all id)) := TE.all1 hW (t.to ⟨bs, rfl, rfl, rfl⟩)
theorem TEq.gc {c : String} {i : Int} (h : HasC W c i) : TEq W k (.gv c) ρ σ (.int i) := TE.gc h ⟨rfl, rfl⟩
theorem Spec.cast {f : String} {args : List V} {r r' : D} (s : Spec W k f args r) (h : r = r') : Spec W k f args r' := h ▸ s
end
end Mine
end
section
open PySem PyProof.Rows
namespace Mine
noncomputable def wl (Inv : Nat -> List (Option V) -> List O -> Prop) (n : Nat) (Q : Out -> List (Option V) -> List O -> Prop) : Out -> List (Option V) -> List O -> Prop
 | .next, ρ, σ => ∃ m, m < n /\ Inv m ρ σ
 | .ret v, ρ, σ => Q (.ret v) ρ σ
section
variable {W : World0} {k : Nat} {σ : List O} {ρ : List (Option V)} {tape : List D} {cs : List Prop} {Q : Out -> List (Option V) -> List O -> Prop} {ss : List CS}
theorem TEv.ev {e : CE} {v : V} (h : pv W k σ ρ e [] tape = some (v, cs, [])) (hc : AllP cs) : TEv W k e ρ σ v := TE.ev h hc ⟨rfl, rfl⟩
theorem TS.iteC {c : CE} {s t : List CS} {b : Bool} (h : TCv W k c ρ σ b) (ht : b = true -> TS W k s ρ σ (thn W k ss Q)) (hf : b = false -> TS W k t ρ σ (thn W k ss Q)) : TS W k (.ite c s t :: ss) ρ σ Q :=
 TS.cons (TS1.ite (h.to (by cases b with | true => exact ht rfl | false => exact hf rfl)))
theorem TS.whileV {c : CE} {b : List CS} (Inv : Nat -> List (Option V) -> List O -> Prop) (n₀ : Nat) (h0 : Inv n₀ ρ σ)
  (turn : ∀ n ρ1 σ1, Inv n ρ1 σ1 -> ∃ d, TCv W k c ρ1 σ1 d /\ (d = true -> TS W k b ρ1 σ1 (wl Inv n Q)) /\ (d = false -> TS W k ss ρ1 σ1 Q)) : TS W k (.while c b :: ss) ρ σ Q :=
 TS.cons (TS1.while Inv n₀ h0 fun n ρ1 σ1 hi => by
  refine xEAA (turn n ρ1 σ1 hi) fun d tc ht hf => ?_
  refine tc.to ?_
  cases d with
  | true => exact (ht rfl).mono fun o a b h => by cases o with | next => exact h | ret v => exact h
  | false => exact hf rfl)
theorem b6z {α : Type} (l : List α) (a b : α) : (l ++ [a]).set l.length b = l ++ [b] := by
 induction l with
 | nil => rfl
 | cons x l ih => exact congrArg (x :: ·) ih
theorem TS.asgD1 {i : Nat} {a b : CE} {ks : List Int} {l : List D} {x : D} {tape2 : List D} {cs2 : List Prop} (h : pv W k (σ ++ [.dT []]) ρ a [] tape = some (.d (.tup l), cs, [])) (hc : AllP cs) (hl : l = ks.map .int) (h2 : pv W k (σ ++ [.dT []]) ρ b [] tape2 = some (.d x, cs2, [])) (hc2 : AllP cs2)
  (t : TS W k ss (ρ.set i (some (.r σ.length))) (σ ++ [.dT [(ks, x)]]) Q) : TS W k (.asg i (.dct1 a b) :: ss) ρ σ Q :=
 TS.cons (TS1.asg (TE.dct1 (TE.ev h hc (TE.ev h2 hc2 ⟨ks, x, by erw [hl], rfl, by erw [List.getElem?_append_right (Nat.le_refl _), Nat.sub_self]; rfl, by erw [b6z]; exact t⟩))))
theorem TS.asgL {i : Nat} {es : List CE} {vs : List V} {l : List D} (h : pvs W k σ ρ es [] tape = some (vs, cs, [])) (hc : AllP cs) (hd : dsOf vs = some l) (hl : l.length <= 16777216) (t : TS W k ss (ρ.set i (some (.r σ.length))) (σ ++ [.lst l]) Q) : TS W k (.asg i (.lst es) :: ss) ρ σ Q :=
 TS.cons (TS1.asg (TE.lstR ((b3d es h hc).2.to ⟨l, a8f hd, hl, t⟩)))
end
end Mine
end
section
open PySem PyProof.Rows
namespace Mine
noncomputable def RT (W : World0) (k : Nat) (ss : List CS) (ρ : List (Option V)) (σ : List O) (r : D) : Prop := ∀ Q : Out -> List (Option V) -> List O -> Prop, (∀ v ρ' σ', ownD σ' v = some r -> Q (.ret v) ρ' σ') -> TS W k ss ρ σ Q
noncomputable def ET (W : World0) (k : Nat) (ss : List CS) (ρ : List (Option V)) (σ : List O) (P : D -> Prop) : Prop := ∃ r, P r /\ RT W k ss ρ σ r
noncomputable def ESpec (W : World0) (k : Nat) (f : String) (args : List V) (P : D -> Prop) : Prop := ∃ r, P r /\ Spec W k f args r
section
variable {W : World0} {k : Nat} {σ : List O} {ρ : List (Option V)} {tape : List D} {cs : List Prop} {ss : List CS} {P : D -> Prop}
theorem ESpec.intro {f : String} {cf : CF} {args : List V} (hf : HasF W f cf) (hlen : args.length = cf.nparams) (t : ET W k cf.body (args.map some ++ List.replicate (cf.nvars - cf.nparams) none) [] P) : ESpec W (k + 1) f args P := by
 obtain ⟨r, hp, t⟩ := t
 exact ⟨r, hp, Spec.intro hf hlen (t _ fun v ρ' σ' h => h)⟩
theorem ET.ret {e : CE} {x : D} (h : pv W k σ ρ e [] tape = some (.d x, cs, [])) (hc : AllP cs) (hp : P x) : ET W k (.ret e :: ss) ρ σ P := ⟨x, hp, fun Q q => TS.retV h hc (q _ _ _ rfl)⟩
theorem ET.ifV {c : CE} {s : List CS} {b : Bool} (h : pv W k σ ρ c [] tape = some (.d (.bool b), cs, [])) (hc : AllP cs) (ht : b = true -> ET W k s ρ σ P) (hf : b = false -> ET W k ss ρ σ P) : ET W k (.ite c s [] :: ss) ρ σ P := by
 cases b with
 | true =>
  obtain ⟨r, hp, t⟩ := ht rfl
  exact ⟨r, hp, fun Q q => TS.iteT h hc rfl (t _ fun v ρ' σ' h => q v ρ' σ' h)⟩
 | false =>
  obtain ⟨r, hp, t⟩ := hf rfl
  exact ⟨r, hp, fun Q q => TS.ifF h hc rfl (t Q q)⟩
theorem ET.asg {i : Nat} {e : CE} {v : V} (h : pv W k σ ρ e [] tape = some (v, cs, [])) (hc : AllP cs) (t : ET W k ss (ρ.set i (some v)) σ P) (hn : a2u e = true := by rfl) : ET W k (.asg i e :: ss) ρ σ P := by
 obtain ⟨r, hp, t⟩ := t
 exact ⟨r, hp, fun Q q => TS.asgV h hc (t Q q) hn⟩
theorem ET.asgCR (hW : WOk W) {i : Nat} {elt e : CE} {m : Nat} (f : Nat -> D) (h : pv W k σ ρ e [] tape = some (.d (.int (m : Int)), cs, [])) (hc : AllP cs) (hm : m <= 16777216) (t : ∀ j, j < m -> TEq W k elt (ρ ++ [some (.d (.int (j : Int)))]) σ (f j))
  (q : ET W k ss (ρ.set i (some (.d (.lst ((List.range m).map f))))) σ P) : ET W k (.asg i (.comp elt 1 true (.prim "range" [e]) none) :: ss) ρ σ P := by
 obtain ⟨r, hp, q⟩ := q
 exact ⟨r, hp, fun Q qq => TS.asgCR hW f h hc hm t (q Q qq)⟩
theorem ET.asgT {is : List Nat} {e : CE} {v : V} {l : List V} (h : pv W k σ ρ e [] tape = some (v, cs, [])) (hc : AllP cs) (hl : seqV σ v = some (false, l)) (hn : l.length = is.length) (t : ET W k ss (a2d ρ is l) σ P) (hk : b6t e = true := by rfl) : ET W k (.asgT is e :: ss) ρ σ P := by
 obtain ⟨r, hp, t⟩ := t
 exact ⟨r, hp, fun Q q => TS.asgTV h hc hl hn (t Q q) hk⟩
end
end Mine
end
section
open PySem PyProof.Rows
namespace Mine
section
variable {W : World0} {k : Nat}
structure HasR (W : World0) : Prop where
 ok : WOk W
 rows_of : HasF W "rows_of" F_rows_of
 is_among : HasF W "is_among" F_is_among
 is_rule : HasF W "is_rule" F_is_rule
 need_rule : HasF W "need_rule" F_need_rule
 c1 : HasC W "MOST_SIGNS" 4
 c2 : HasC W "MOST_WIDE" 4
 c3 : HasC W "MOST_ROWS" 16
structure HasS (W : World0) : Prop where
 R : HasR W
 many_ends : HasF W "many_ends" F_many_ends
 told_by : HasF W "told_by" F_told_by
 onward : HasF W "onward" F_onward
theorem lt64 {s : Nat} (h : s <= 1000) : -(2 ^ 64) < (s : Int) /\ (s : Int) < 2 ^ 64 := ⟨Int.lt_of_lt_of_le (by decide) (Int.natCast_nonneg s), Int.lt_of_le_of_lt (Int.ofNat_le.mpr h) (by decide)⟩
theorem a1r {m : Nat} (h : m <= 1000) : m <= 16777216 := Nat.le_trans h (by decide)
theorem a6r (H : HasR W) {s w : Nat} (hs : s <= 1000) (hw : w <= 1000) : Spec W (k + 1) "rows_of" [.d (.int s), .d (.int w)] (.int ((s ^ w : Nat) : Int)) :=
 Spec.intro H.rows_of rfl (TS.asgV rfl trivial (TS.forR H.ok rfl trivial (a1r hw)
  (fun n ρ σ => ∃ x, ρ = [some (.d (.int s)), some (.d (.int w)), some (.d (.int ((s ^ n : Nat) : Int))), x] /\ σ = []) ⟨none, rfl, rfl⟩
  (fun j _ _ hj ⟨x, h1, h2⟩ => by subst h1 h2; exact TS.asgV rfl ⟨.inr (lt64 hs), trivial⟩ (TS.nil ⟨_, rfl, rfl⟩))
  (fun _ _ ⟨x, h1, h2⟩ => by subst h1 h2; exact TS.retV rfl trivial rfl)))
theorem b1a (H : HasR W) (x lo hi : Int) : Spec W (k + 1) "is_among" [.d (.int x), .d (.int lo), .d (.int hi)] (.bool (decide (lo <= x) && decide (x <= hi))) :=
 Spec.intro H.is_among rfl (TS.cons (TS1.ret (TE.and (TE.isi H.ok (TE.var rfl ⟨_, _, rfl, .intInt x, true, rfl, TE.and (TE.not (TE.isi H.ok (TE.var rfl ⟨_, _, rfl, .intBool x, false, rfl, true, rfl, TE.and1 (TE.cmp2 (TE.var rfl (TE.var rfl ⟨_, .le rfl rfl, by
  cases decide (lo <= x) with
  | true => exact TE.var rfl ⟨_, .le rfl rfl, rfl⟩
  | false => rfl⟩)))⟩)))⟩)))))
noncomputable def a0a (l : List Nat) : List D := l.map fun (x : Nat) => .int (x : Int)
noncomputable def a0m (s w : Nat) (t : List Nat) : D := .tup [.int s, .int w, .tup (a0a t)]
structure OkR (s w : Nat) (t : List Nat) : Prop where
 s2 : 2 <= s
 s4 : s <= 4
 w1 : 1 <= w
 w4 : w <= 4
 rows : s ^ w <= 16
 len : t.length = s ^ w
 sign : ∀ x ∈ t, x < s
theorem OkR.s1000 {s w : Nat} {t : List Nat} (R : OkR s w t) : s <= 1000 := Nat.le_trans R.s4 (by decide)
theorem OkR.w1000 {s w : Nat} {t : List Nat} (R : OkR s w t) : w <= 1000 := Nat.le_trans R.w4 (by decide)
theorem OkR.pos {s w : Nat} {t : List Nat} (R : OkR s w t) : 0 < s ^ (w - 1) := Nat.pow_pos (Nat.lt_of_lt_of_le (by decide) R.s2)
theorem OkR.eq {s w : Nat} {t : List Nat} (R : OkR s w t) : s ^ w = s ^ (w - 1) * s := by
 have h := R.w1
 cases w with
 | zero => cases h
 | succ v => rfl
theorem OkR.n8 {s w : Nat} {t : List Nat} (R : OkR s w t) : s ^ (w - 1) <= 8 := by
 have h := R.rows
 rw [R.eq] at h
 have h2 : s ^ (w - 1) * 2 <= s ^ (w - 1) * s := Nat.mul_le_mul_left _ R.s2
 exact Nat.le_of_mul_le_mul_right (Nat.le_trans h2 h : _ <= 8 * 2) (by decide)
theorem a0p {σ : List O} {v : V} {b : Bool} {l : List D} {n : Nat} {x : D} (hv : seqV σ v = some (b, l.map V.d)) (hl : l.length <= 16777216) (hx : l[n]? = some x) : SubV σ v (.d (.int (n : Int))) (.d x) := by
 have hlt : n < l.length := (List.getElem?_eq_some_iff.mp hx).1
 have hn : (n : Int) < 16777216 := Int.ofNat_lt.mpr (Nat.lt_of_lt_of_le hlt hl)
 refine .seq hv rfl (j := n) ?_ (by erw [List.getElem?_map, hx]; rfl) ⟨Int.le_trans (by decide) (Int.natCast_nonneg n), Int.lt_trans hn (by decide)⟩
 unfold seqIndex?
 erw [List.length_map, if_neg (Int.not_lt.mpr (Int.natCast_nonneg n)), if_pos (by rw [Bool.and_eq_true, decide_eq_true_eq, decide_eq_true_eq]; exact ⟨Int.natCast_nonneg n, Int.ofNat_lt.mpr hlt⟩), Int.toNat_natCast]
theorem b1b {w : Nat} (h : 1 <= w) : ((w : Int) - 1) = ((w - 1 : Nat) : Int) := (Int.ofNat_sub h).symm
theorem a2w (H : HasS W) {s w : Nat} {t : List Nat} (R : OkR s w t) : Spec W (k + 2) "many_ends" [.d (a0m s w t)] (.int ((s ^ (w - 1) : Nat) : Int)) :=
 Spec.intro H.many_ends rfl (TS.retV (tape := [.int ((s ^ (w - 1) : Nat) : Int)]) rfl ⟨b1b R.w1 ▸ a6r H.R R.s1000 (Nat.le_trans (Nat.sub_le _ _) R.w1000), trivial⟩ rfl)
theorem a0e (l : List Nat) : (a0a l).length = l.length := List.length_map _
theorem a3n {l : List Nat} {n x : Nat} (h : l[n]? = some x) : (a0a l)[n]? = some (.int (x : Int)) := by unfold a0a; erw [List.getElem?_map, h]; rfl
theorem OkR.len16 {s w : Nat} {t : List Nat} (R : OkR s w t) : (a0a t).length <= 16777216 := by erw [a0e, R.len]; exact Nat.le_trans R.rows (by decide)
theorem a3o (H : HasS W) {s w : Nat} {t : List Nat} (R : OkR s w t) {e a x : Nat} (hx : t[e * s + a]? = some x) : Spec W (k + 1) "told_by" [.d (a0m s w t), .d (.int e), .d (.int a)] (.int x) :=
 Spec.intro H.told_by rfl (TS.retV (tape := [.int x]) rfl ⟨a0p (n := e * s + a) rfl R.len16 (a3n hx), .inr (lt64 R.s1000), trivial⟩ rfl)
theorem beqN {a b : Nat} (h : ((a : Int) == (b : Int)) = true) : a = b := Int.ofNat.inj (eq_of_beq h)
theorem bneN {a b : Nat} (h : ((a : Int) == (b : Int)) = false) : a ≠ b := fun e => by subst e; rw [beq_self_eq_true] at h; exact dTF h
theorem a2b {n : Nat} (h : 0 < n) : (n : Int) ≠ 0 := fun e => Nat.ne_of_gt h (Int.ofNat.inj e)
theorem a2p (a b : Nat) : (a : Int).fmod b = ((a % b : Nat) : Int) := Int.ofNat_fmod a b ▸ rfl
theorem a4s (H : HasS W) {s w : Nat} {t : List Nat} (R : OkR s w t) (e a : Nat) : Spec W (k + 3) "onward" [.d (a0m s w t), .d (.int e), .d (.int a)] (.int (((e * s + a) % s ^ (w - 1) : Nat) : Int)) :=
 Spec.intro H.onward rfl (TS.retV (tape := [.int ((s ^ (w - 1) : Nat) : Int)]) rfl ⟨a2b R.pos, a2w H R, .inr (lt64 R.s1000), trivial⟩ (congrArg (fun z => some (D.int z)) (a2p (e * s + a) (s ^ (w - 1)))))
end
end Mine
end
section
open PySem PyProof.Rows
namespace Mine
section
variable {W : World0} {k : Nat}
theorem a2i (H : HasR W) {x lo hi : Int} (h1 : lo <= x) (h2 : x <= hi) : Spec W (k + 1) "is_among" [.d (.int x), .d (.int lo), .d (.int hi)] (.bool true) :=
 (b1a H x lo hi).cast (by erw [decide_eq_true h1, decide_eq_true h2]; rfl)
theorem c5s (l : List D) : l.map (fun ζ => D.bool true) = (l.map fun ζ => true).map D.bool := by erw [List.map_map]; rfl
theorem c1m (l : List D) : (l.map fun ζ => true).all id = true := by erw [List.all_map]; exact List.all_eq_true.mpr fun ζ ζ => rfl
theorem b3e (H : HasR W) {e : CE} {ρ : List (Option V)} {σ : List O} {v : V} {b : Bool} {l : List D} {cs : List Prop} (h : pv W (k + 1) σ ρ e [] [] = some (v, cs, [])) (hc : AllP cs) (hs : seqV σ v = some (b, l.map V.d)) (hn : notLive v = true) (hl : l.length <= 16777216) {elt : CE}
  (t : ∀ x ∈ l, TEq W (k + 1) elt (ρ ++ [some (.d x)]) σ (.bool true)) : TEq W (k + 1) (.prim "all" [.comp elt 1 true e none]) ρ σ (.bool true) := by
 have := TEq.all H.ok (bs := l.map fun ζ => true) (c5s l ▸ TEq.compS (fun ζ => .bool true) h hc hs hn hl t)
 rwa [c1m] at this
theorem c1n {a s : Nat} (h : a < s) : (a : Int) <= (s : Int) - 1 := Int.le_sub_one_of_lt (Int.ofNat_lt.mpr h)
theorem OkR.okRows {s w : Nat} {t : List Nat} (R : OkR s w t) : (decide ((16 : Int) < ((s ^ w : Nat) : Int)) || (!true || !(((a0a t).length : Int) == ((s ^ w : Nat) : Int)))) = false := by
 erw [a0e, R.len, beq_self_eq_true, decide_eq_false (Int.not_lt.mpr (show ((s ^ w : Nat) : Int) <= 16 from Int.ofNat_le.mpr R.rows))]; rfl
theorem b3f (H : HasR W) {s w : Nat} {t : List Nat} (R : OkR s w t) : Spec W (k + 2) "is_rule" [.d (a0m s w t)] (.bool true) :=
 Spec.intro H.is_rule rfl
  (TS.ifF (tape := [.bool true, .int ((3 : Nat) : Int)]) rfl ⟨TEq.len H.ok rfl trivial rfl rfl (by decide), TEq.isi H.ok rfl trivial rfl (.tup _), trivial⟩ rfl
  (TS.ifF (tape := [.int 4, .bool true, .int 4, .bool true]) rfl ⟨a2i H (Int.ofNat_le.mpr R.w1) (Int.ofNat_le.mpr R.w4), TEq.gc H.c2, a2i H (Int.ofNat_le.mpr R.s2) (Int.ofNat_le.mpr R.s4), TEq.gc H.c1, trivial⟩ rfl
  (TS.asgV (tape := [.int ((s ^ w : Nat) : Int)]) rfl ⟨a6r H R.s1000 R.w1000, trivial⟩
  (TS.ifF (tape := [.int 16, .bool true, .int ((a0a t).length : Int)]) rfl ⟨TEq.len H.ok rfl trivial rfl rfl R.len16, TEq.isi H.ok rfl trivial rfl (.tup _), TEq.gc H.c3, trivial⟩ R.okRows
  (TS.retV (tape := [.bool true]) rfl ⟨b3e (cs := []) H rfl trivial rfl rfl R.len16 (fun x hx => by
   obtain ⟨a, ha, rfl⟩ := List.mem_map.mp hx
   exact TEq.ev (tape := [.bool true]) rfl ⟨a2i H (Int.natCast_nonneg a) (c1n (R.sign a ha)), trivial⟩), trivial⟩ rfl)))))
theorem a1y (H : HasR W) {s w : Nat} {t : List Nat} (R : OkR s w t) : Spec W (k + 3) "need_rule" [.d (a0m s w t)] .none :=
 Spec.intro H.need_rule rfl (TS.ifF (tape := [.bool true]) rfl ⟨b3f H R, trivial⟩ rfl (TS.nil rfl))
end
end Mine
end
section
open PySem PyProof.Rows
namespace Mine
theorem b1c {K α : Type} [DecidableEq K] : ∀ (l : List (K × α)) (k : K), (lk l k).isSome = true ↔ k ∈ l.map (·.1)
 | [], k => by simp [lk]
 | (k', x) :: l, k => by
  unfold lk
  by_cases h : k = k'
  ·simp [h]
  ·simp only [h, if_false, List.map_cons, List.mem_cons, false_or]; exact b1c l k
theorem b7a {K α : Type} [DecidableEq K] (l : List (K × α)) (k : K) (x : α) : (put l k x).map (·.1) = if k ∈ l.map (·.1) then l.map (·.1) else l.map (·.1) ++ [k] := by
 unfold put
 by_cases h : (lk l k).isSome = true
 ·erw [if_pos h, if_pos ((b1c l k).mp h), List.map_map]
  refine List.map_congr_left fun a ζ => ?_
  simp only [Function.comp_apply]
  split <;> rfl
 ·erw [if_neg h, if_neg (fun hm => h ((b1c l k).mpr hm))]
  simp
set_option tactic.hygienic true in
theorem c1o {K α : Type} [DecidableEq K] {l : List (K × α)} {k : K} {x : α} (h : (l.map (·.1)).Nodup) : ((put l k x).map (·.1)).Nodup := by
 rw [b7a]
 split
 ·exact h
 ·rename_i hn
  rw [List.nodup_append]
  exact ⟨h, by simp, fun a ha b hb => by simp only [List.mem_singleton] at hb; subst hb; exact fun e => hn (e ▸ ha)⟩
set_option tactic.hygienic true in
theorem c9u {K α : Type} [DecidableEq K] {l : List (K × α)} {k : K} {x : α} (z : K) : z ∈ (put l k x).map (·.1) ↔ z ∈ l.map (·.1) ∨ z = k := by
 rw [b7a]
 split
 ·rename_i h
  exact ⟨.inl, fun h' => h'.elim id fun e => e ▸ h⟩
 ·simp
noncomputable def hit (s N : Nat) (t : List Nat) (ends : List Nat) (told n : Nat) : Prop := ∃ e ∈ ends, ∃ a, a < s /\ t[e * s + a]? = some told /\ (e * s + a) % N = n
noncomputable def hitB (s N : Nat) (t : List Nat) (ends : List Nat) (told n : Nat) : Bool := ends.any fun e => (List.range s).any fun a => t[e * s + a]? == some told && (e * s + a) % N == n
theorem c5t {s N : Nat} {t ends : List Nat} {told n : Nat} : hitB s N t ends told n = true ↔ hit s N t ends told n := by
 unfold hitB hit
 simp only [List.any_eq_true, List.mem_range, Bool.and_eq_true, beq_iff_eq]
noncomputable def a1g (s N : Nat) (t : List Nat) (ends : List Nat) (told : Nat) : List Nat := (List.range N).filter (hitB s N t ends told)
theorem a4a {s N : Nat} {t ends : List Nat} {told n : Nat} (hN : 0 < N) : n ∈ a1g s N t ends told ↔ hit s N t ends told n := by
 unfold a1g
 rw [List.mem_filter, c5t, List.mem_range]
 exact ⟨fun h => h.2, fun h => ⟨by obtain ⟨e, _, a, _, _, rfl⟩ := h; exact Nat.mod_lt _ hN, h⟩⟩
theorem c1p {s N : Nat} {t ends : List Nat} {told n : Nat} (h : n ∈ a1g s N t ends told) : n < N := by
 unfold a1g at h
 rw [List.mem_filter, List.mem_range] at h
 exact h.1
theorem c1q {s N : Nat} {t ends : List Nat} {told : Nat} (hN : 0 < N) {ks : List Int} (nd : ks.Nodup) (hm : ∀ z : Int, z ∈ ks ↔ ∃ m : Nat, z = m /\ hit s N t ends told m) : a8c ks = (a1g s N t ends told).map fun (x : Nat) => (x : Int) := by
 have nd2 : ((a1g s N t ends told).map fun (x : Nat) => (x : Int)).Nodup := by
  refine List.Pairwise.map _ (fun a b h => ?_) (List.Pairwise.filter _ List.nodup_range)
  intro e; exact h (Int.ofNat.inj e)
 refine a5k ((a6f ks).trans ((List.perm_ext_iff_of_nodup nd nd2).mpr fun z => ?_)) (a8d ks) ?_
 ·rw [hm, List.mem_map]
  exact ⟨fun ⟨m, e, h⟩ => ⟨m, (a4a hN).mpr h, e.symm⟩, fun ⟨m, h, e⟩ => ⟨m, e.symm, (a4a hN).mp h⟩⟩
 ·refine List.Pairwise.map _ (fun a b h => ?_) (List.Pairwise.filter _ (List.pairwise_lt_range))
  have : a < b := h
  exact om22 h
theorem c5u {N : Nat} {ks : List Int} (nd : ks.Nodup) (h : ∀ z ∈ ks, ∃ m : Nat, z = m /\ m < N) : ks.length <= N := by
 have := List.Nodup.length_le_of_subset (l₂ := (List.range N).map fun (x : Nat) => (x : Int)) nd fun z hz => by
  refine xEA (h z hz) fun m e hm => ?_
  exact List.mem_map.mpr ⟨m, List.mem_range.mpr hm, e.symm⟩
 simpa using this
noncomputable def adds (s N : Nat) (t : List Nat) (ends piece : List Nat) (fs : List (List Nat × List Nat)) : Nat -> List (List Nat × List Nat)
 | 0 => fs
 | a + 1 => if a1g s N t ends a ∈ (adds s N t ends piece fs a).map (·.1) then adds s N t ends piece fs a else adds s N t ends piece fs a ++ [(a1g s N t ends a, piece ++ [a])]
noncomputable def gone (s N : Nat) (t : List Nat) : Nat -> List (List Nat × List Nat)
 | 0 => [(List.range N, [])]
 | i + 1 => match (gone s N t i)[i]? with
  | none => gone s N t i
  | some p => adds s N t p.1 p.2 (gone s N t i) s
noncomputable def b1d (s N : Nat) (t : List Nat) (word : List Nat) : List Nat := word.foldl (a1g s N t) (List.range N)
noncomputable def subs : Nat -> List (List Nat)
 | 0 => [[]]
 | n + 1 => subs n ++ (subs n).map (· ++ [n])
theorem b7b : ∀ n, (subs n).length = 2 ^ n
 | 0 => rfl
 | n + 1 => by simp [subs, b7b n, Nat.pow_succ]; exact om23
theorem a3f (p : Nat -> Bool) : ∀ n, (List.range n).filter p ∈ subs n
 | 0 => by simp [subs]
 | n + 1 => by
  erw [List.range_succ, List.filter_append]
  simp only [subs, List.mem_append, List.mem_map]
  cases h : p n with
  | true => right; exact ⟨_, a3f p n, by simp [h]⟩
  | false => left; simpa [h] using a3f p n
theorem b5g : ∀ {n : Nat} {e : List Nat}, e ∈ subs n -> e.length <= n
 | 0, e, h => by simp [subs] at h; simp [h]
 | n + 1, e, h => by
  simp only [subs, List.mem_append, List.mem_map] at h
  rcases h with h | ⟨e', h, rfl⟩
  ·have := b5g h; exact om24 this
  ·have := b5g h; simp; exact om25 this
structure GoneOk (s N : Nat) (t : List Nat) (fs : List (List Nat × List Nat)) : Prop where
 nd : (fs.map (·.1)).Nodup
 can : ∀ p ∈ fs, p.1 ∈ subs N
 lt : ∀ p ∈ fs, ∀ e ∈ p.1, e < N
 rch : ∀ p ∈ fs, p.1 = b1d s N t p.2
 sgn : ∀ p ∈ fs, ∀ x ∈ p.2, x < s
 pl : ∀ p ∈ fs, p.2.length < fs.length
theorem GoneOk.len {s N : Nat} {t : List Nat} {fs : List (List Nat × List Nat)} (G : GoneOk s N t fs) : fs.length <= 2 ^ N := by
 have := List.Nodup.length_le_of_subset (l₂ := subs N) G.nd fun e he => by
  obtain ⟨p, hp, rfl⟩ := List.mem_map.mp he
  exact G.can p hp
 simpa [b7b] using this
theorem c1r (s N : Nat) (t : List Nat) : GoneOk s N t (gone s N t 0) where
 nd := by simp [gone]
 can := fun p hp => by
  simp only [gone, List.mem_singleton] at hp; subst hp
  have e : (List.range N).filter (fun ζ => true) = List.range N := List.filter_eq_self.mpr (by simp)
  exact e ▸ a3f (fun ζ => true) N
 lt := fun p hp e he => by simp only [gone, List.mem_singleton] at hp; subst hp; simpa using he
 rch := fun p hp => by simp only [gone, List.mem_singleton] at hp; subst hp; rfl
 sgn := fun p hp x hx => by simp only [gone, List.mem_singleton] at hp; subst hp; simp at hx
 pl := fun p hp => by simp only [gone, List.mem_singleton] at hp; subst hp; simp [gone]
theorem b1e (s N : Nat) (t ends piece : List Nat) (fs : List (List Nat × List Nat)) : ∀ a, ∃ r, adds s N t ends piece fs a = fs ++ r
 | 0 => ⟨[], by simp [adds]⟩
 | a + 1 => by
  obtain ⟨r, hr⟩ := b1e s N t ends piece fs a
  unfold adds
  split
  ·exact ⟨r, hr⟩
  ·exact ⟨r ++ [(a1g s N t ends a, piece ++ [a])], by erw [hr]; simp⟩
set_option tactic.hygienic true in
theorem b5h {s N : Nat} {t ends piece : List Nat} {fs : List (List Nat × List Nat)} (G : GoneOk s N t fs) (hp : ends = b1d s N t piece) (hx : ∀ x ∈ piece, x < s) (hpl : piece.length < fs.length) : ∀ {a : Nat}, a <= s -> GoneOk s N t (adds s N t ends piece fs a)
 | 0, _ => G
 | a + 1, ha => by
  have ih := b5h G hp hx hpl (a := a) (om26 ha)
  have hle : fs.length <= (adds s N t ends piece fs a).length := by obtain ⟨r, hr⟩ := b1e s N t ends piece fs a; erw [hr]; simp
  unfold adds
  split
  ·exact ih
  ·rename_i hn
   refine ⟨?_, fun p h => ?_, fun p h => ?_, fun p h => ?_, fun p h => ?_, fun p h => ?_⟩
   ·erw [List.map_append, List.nodup_append]
    refine ⟨ih.nd, by simp, fun x hx y hy => ?_⟩
    simp only [List.map_cons, List.map_nil, List.mem_singleton] at hy
    subst hy
    exact fun e => hn (e ▸ hx)
   all_goals (rcases List.mem_append.mp h with h | h)
   ·exact ih.can p h
   ·simp only [List.mem_singleton] at h; subst h; exact a3f _ N
   ·exact ih.lt p h
   ·simp only [List.mem_singleton] at h; subst h; exact fun e he => c1p he
   ·exact ih.rch p h
   ·simp only [List.mem_singleton] at h; subst h
    simp only [b1d, List.foldl_append, List.foldl_cons, List.foldl_nil]
    erw [hp]; rfl
   ·exact ih.sgn p h
   ·simp only [List.mem_singleton] at h; subst h
    intro x hx'
    rcases List.mem_append.mp hx' with h | h
    ·exact hx x h
    ·simp only [List.mem_singleton] at h; exact om27 h ha
   ·have := ih.pl p h; simp; exact om28 this
   ·simp only [List.mem_singleton] at h; subst h; simp; exact om29 hpl hle
set_option tactic.hygienic true in
theorem b1f (s N : Nat) (t : List Nat) : ∀ i, GoneOk s N t (gone s N t i)
 | 0 => c1r s N t
 | i + 1 => by
  have ih := b1f s N t i
  unfold gone
  split
  ·exact ih
  ·rename_i p hp
   have hm := List.mem_of_getElem? hp
   exact b5h ih (ih.rch p hm) (ih.sgn p hm) (ih.pl p hm) (Nat.le_refl _)
noncomputable def a9e (p : List Nat × List Nat) : D := .tup [.tup (a0a p.1), .lst (a0a p.2)]
noncomputable def keyZ (e : List Nat) : List Int := e.map fun (x : Nat) => (x : Int)
theorem b7c {a b : List Nat} (h : keyZ a = keyZ b) : a = b := by
 unfold keyZ at h
 exact (List.map_inj_right fun x y e => Int.ofNat.inj e).mp h
theorem b7d (e : List Nat) : (keyZ e).map D.int = a0a e := by simp [keyZ, a0a, Function.comp_def]
noncomputable def metD (fs : List (List Nat × List Nat)) : List (List Int × D) := fs.map fun p => (keyZ p.1, .bool true)
theorem a2q (fs : List (List Nat × List Nat)) (e : List Nat) : (lk (metD fs) (keyZ e)).isSome = decide (e ∈ fs.map (·.1)) := by
 rw [Bool.eq_iff_iff, b1c, decide_eq_true_eq]
 simp only [metD, List.map_map, List.mem_map, Function.comp_apply]
 exact ⟨fun ⟨p, hp, h⟩ => ⟨p, hp, b7c h⟩, fun ⟨p, hp, h⟩ => ⟨p, hp, by erw [h]⟩⟩
theorem b1g {fs : List (List Nat × List Nat)} {e q : List Nat} (h : e ∉ fs.map (·.1)) : put (metD fs) (keyZ e) (.bool true) = metD (fs ++ [(e, q)]) := by
 unfold put
 erw [a2q, decide_eq_false h]
 simp [metD]
theorem a1v : ∀ l : List Nat, a0r (a0a l) = true
 | [] => rfl
 | a :: l => by show (a0q (.int a) && a0r (a0a l)) = true; erw [a1v l]; rfl
theorem a5p : ∀ l : List Nat, deps (a0a l) = 0
 | [] => rfl
 | a :: l => by show max (dep (.int a)) (deps (a0a l)) = 0; erw [a5p l]; rfl
noncomputable def c1s (fs : List (List Nat × List Nat)) : D := match fs.find? (fun p => p.1.isEmpty) with
 | none => .none
 | some p => .lst (a0a p.2)
theorem a9x (l : List Nat) : (a0a l).map b0t = (a0a l).map V.d := by
 induction l with
 | nil => rfl
 | cons a l ih => exact congrArg (V.d (.int a) :: ·) ih
theorem a2m : ∀ l : List Nat, nolists (a0a l) = true
 | [] => rfl
 | a :: l => by show (nolist (.int a) && nolists (a0a l)) = true; erw [a2m l]; rfl
theorem b7e {l : List Nat} {n : Nat} {x : V} (h : ((a0a l).map V.d)[n]? = some x) : ∃ a, l[n]? = some a /\ x = .d (.int (a : Int)) := by
 simp only [a0a, List.map_map, List.getElem?_map] at h
 cases e : l[n]? with
 | none => rw [e] at h; exact dNS h
 | some a => rw [e] at h; simp only [Option.map_some, Function.comp_apply, Option.some.injEq] at h; exact ⟨a, rfl, h.symm⟩
theorem a8g (e : List Nat) : eqD (.tup (a0a e)) (.tup []) = e.isEmpty := by
 cases e with
 | nil => rfl
 | cons a b => rfl
end Mine
end
section
open PySem PyProof.Rows
namespace Mine
structure OkS (s w : Nat) : Prop where
 s2 : 2 <= s
 s4 : s <= 4
 w1 : 1 <= w
 w4 : w <= 4
 rows : s ^ w <= 16
theorem fm0 (z : Int) {b : Nat} (hb : 0 < b) : 0 <= z.fmod (b : Int) := Int.fmod_nonneg_of_pos z (Int.ofNat_lt.mpr hb)
theorem fm1 (z : Int) {b : Nat} (hb : 0 < b) : z.fmod (b : Int) < b := Int.fmod_lt_of_pos z (Int.ofNat_lt.mpr hb)
theorem a5q (a b : Nat) : (a : Int).fdiv (b : Int) = ((a / b : Nat) : Int) := by
 erw [Int.fdiv_eq_ediv_of_nonneg _ (Int.natCast_nonneg b)]; rfl
theorem a2r (z : Int) {b : Nat} (hb : 0 < b) : ∃ m : Nat, m < b /\ z.fmod (b : Int) = (m : Int) := by
 obtain ⟨m, e⟩ := Int.eq_ofNat_of_zero_le (fm0 z hb)
 exact ⟨m, Int.ofNat_lt.mp (e ▸ fm1 z hb), e⟩
noncomputable def tabL (rows : Nat) (f : Nat -> Int) : List Nat := (List.range rows).map fun j => (f j).toNat
noncomputable def c1t (s rows : Nat) (r : D) : Prop := ∃ t : List Nat, t.length = rows /\ (∀ x ∈ t, x < s) /\ r = .tup (a0a t)
theorem tab_eq {rows : Nat} {f : Nat -> Int} (h : ∀ j, j < rows -> 0 <= f j) : (List.range rows).map (fun j => D.int (f j)) = a0a (tabL rows f) := by
 unfold a0a tabL
 erw [List.map_map]
 refine List.map_congr_left fun j hj => ?_
 show D.int (f j) = D.int ((f j).toNat : Int)
 erw [Int.toNat_of_nonneg (h j (List.mem_range.mp hj))]
theorem c7r {s rows : Nat} {f : Nat -> Int} (h : ∀ j, j < rows -> 0 <= f j /\ f j < s) : c1t s rows (.tup ((List.range rows).map fun j => D.int (f j))) := by
 refine ⟨tabL rows f, by unfold tabL; erw [List.length_map, List.length_range], fun x hx => ?_, by erw [tab_eq fun j hj => (h j hj).1]⟩
 obtain ⟨j, hj, rfl⟩ := List.mem_map.mp hx
 have := h j (List.mem_range.mp hj)
 exact Int.ofNat_lt.mp (by erw [Int.toNat_of_nonneg this.1]; exact this.2)
noncomputable def mixZ (c : Int) (k : Nat) : Int := (((c.fmod 1000000007 + 1) * 48271).fmod 2147483647 * (16807 + 7919 * (k : Int) * (k : Int) + 31 * (k : Int))).fmod 2147483629 |>.fdiv 7
theorem lt2 {u : Nat} (h : u < 2) : u = 0 ∨ u = 1 := (by decide : ∀ u, u < 2 -> (u = 0 ∨ u = 1)) u h
theorem lt8 {u : Nat} (h : u < 8) : u = 0 ∨ u = 1 ∨ u = 2 ∨ u = 3 ∨ u = 4 ∨ u = 5 ∨ u = 6 ∨ u = 7 := (by decide : ∀ u, u < 8 -> (u = 0 ∨ u = 1 ∨ u = 2 ∨ u = 3 ∨ u = 4 ∨ u = 5 ∨ u = 6 ∨ u = 7)) u h
theorem c9v (l : List Int) : (l.map D.int).map b0t = (l.map D.int).map V.d := by
 erw [List.map_map, List.map_map]; rfl
section
variable {W : World0} {k : Nat}
structure HasL (W : World0) : Prop where
 ok : WOk W
 cell_at : HasF W "_law_cell_at" b2k
 mixed : HasF W "_law_mixed" b9t
 random : HasF W "_law_random" b6b
 mending : HasF W "_law_mending" b2l
 between : HasF W "_law_between" b2m
 beside : HasF W "_law_beside" b6c
 turned : HasF W "_law_turned" b6d
 rule : HasF W "_law_rule" c7f
noncomputable def b1h (zs : List Int) (n : Nat) : Int := zs.getD n 0
theorem b3g (H : HasL W) {zs : List Int} {n : Nat} (hl : zs.length <= 1000) : Spec W (k + 1) "_law_cell_at" [.a (.lst (zs.map .int)), .d (.int n)] (.int (b1h zs n)) := by
 have hz : (zs.map D.int).length <= 16777216 := by erw [List.length_map]; exact a1r hl
 refine Spec.intro H.cell_at rfl (TS.ifV (tape := [.int ((zs.map D.int).length : Int)]) rfl ⟨TEq.len H.ok rfl trivial rfl rfl hz, trivial⟩ (fun h => ?_) fun h => TS.retV rfl trivial ?_)
 ·rw [decide_eq_true_eq, Int.ofNat_lt, List.length_map] at h
  refine TS.retV (tape := [.int (b1h zs n)]) rfl ⟨a0p (b := true) (l := zs.map .int) (by erw [← c9v]; rfl) hz (by erw [List.getElem?_map, List.getElem?_eq_getElem h]; unfold b1h; erw [List.getD_eq_getElem?_getD, List.getElem?_eq_getElem h]; rfl), trivial⟩ rfl
 ·rw [decide_eq_false_iff_not, Int.ofNat_lt, List.length_map] at h
  show some (D.int 0) = _
  unfold b1h
  erw [List.getD_eq_getElem?_getD, List.getElem?_eq_none (Nat.le_of_not_lt h)]; rfl
theorem a6g (H : HasL W) (c : Int) {n : Nat} (hn : n <= 1000) : Spec W (k + 1) "_law_mixed" [.d (.int c), .d (.int n)] (.int (mixZ c n)) :=
 Spec.intro H.mixed rfl (TS.asgV rfl ⟨by decide, .inr (by decide), by decide, trivial⟩ (TS.retV rfl ⟨by decide, by decide, .inl ⟨Int.lt_of_lt_of_le (by decide) (fm0 _ (b := 2147483647) (by decide)), Int.lt_trans (fm1 _ (b := 2147483647) (by decide)) (by decide)⟩, .inl (by decide), .inr (lt64 hn), .inl (by decide), trivial⟩ rfl))
theorem ET.tab (hW : WOk W) {ss : List CS} {σ : List O} {ρ : List (Option V)} {tape : List D} {cs : List Prop} {elt e : CE} {s rows : Nat} (f : Nat -> Int) (h : pv W k σ ρ e [] tape = some (.d (.int (rows : Int)), cs, [])) (hc : AllP cs) (hm : rows <= 1000) (hf : ∀ j, j < rows -> 0 <= f j /\ f j < s)
  (t : ∀ j, j < rows -> TEq W k elt (ρ ++ [some (.d (.int (j : Int)))]) σ (.int (f j))) : ET W k (.ret (.prim "tuple" [.comp elt 1 true (.prim "range" [e]) none]) :: ss) ρ σ (c1t s rows) :=
 ⟨_, c7r hf, fun Q q => TS.retV (tape := [_]) rfl ⟨TEq.tuple hW (TEq.compR hW (fun j => .int (f j)) h hc (a1r hm) t) (by erw [List.length_map, List.length_range]; exact a1r hm), trivial⟩ (q _ _ _ rfl)⟩
theorem b5i (H : HasL W) {s rows : Nat} {more : Int} (hs : 0 < s) (hr : rows <= 1000) : ESpec W (k + 2) "_law_random" [.d (.int s), .d (.int rows), .d (.int more)] (c1t s rows) :=
 ESpec.intro H.random rfl (ET.tab H.ok (fun j => (mixZ more j).fmod s) rfl trivial hr (fun j ζ => ⟨fm0 _ hs, fm1 _ hs⟩) fun j hj => TEq.ev (tape := [.int (mixZ more j)]) rfl ⟨a2b hs, a6g H more (Nat.le_trans (Nat.le_of_lt hj) hr), trivial⟩)
theorem b3h (H : HasL W) {s rows : Nat} {more : Int} (hs : 0 < s) (hsr : s <= rows) (hr : rows <= 1000) : ESpec W (k + 2) "_law_mending" [.d (.int s), .d (.int rows), .d (.int more)] (c1t s rows) := by
 have hs1 : s <= 1000 := Nat.le_trans hsr hr
 have hb : ((s : Int)).natAbs < 1073741824 := Nat.lt_of_le_of_lt hs1 (by decide)
 have hf : 0 < rows / s := Nat.div_pos hsr hs
 have hfb : ((rows / s : Nat) : Int).natAbs < 1073741824 := Nat.lt_of_le_of_lt (Nat.le_trans (Nat.div_le_self _ _) hr) (by decide)
 refine ESpec.intro H.mending rfl (ET.asg rfl ⟨⟨a2b hs, hb⟩, trivial⟩ (ET.ifV rfl ⟨by decide, trivial⟩ (fun ζ => ?_) fun ζ => ?_))
 ·refine ET.tab H.ok (fun j => ((j : Int).fmod s + mixZ more (j / s)).fmod s) rfl trivial hr (fun j ζ => ⟨fm0 _ hs, fm1 _ hs⟩) fun j hj => ?_
  exact TEq.ev (tape := [.int (mixZ more (j / s))]) rfl ⟨a2b hs, a5q j s ▸ a6g H more (Nat.le_trans (Nat.div_le_self _ _) (Nat.le_trans (Nat.le_of_lt hj) hr)), ⟨a2b hs, hb⟩, a2b hs, trivial⟩
 ·erw [a5q]
  refine ET.tab H.ok (fun j => ((j : Int).fdiv (rows / s : Nat) + mixZ more (j % (rows / s))).fmod s) rfl trivial hr (fun j ζ => ⟨fm0 _ hs, fm1 _ hs⟩) fun j hj => ?_
  exact TEq.ev (tape := [.int (mixZ more (j % (rows / s)))]) rfl ⟨a2b hs, a2p j (rows / s) ▸ a6g H more (Nat.le_trans (Nat.mod_le _ _) (Nat.le_trans (Nat.le_of_lt hj) hr)), a2b hf, ⟨a2b hf, hfb⟩, trivial⟩
end
end Mine
end
section
open PySem PyProof.Rows
namespace Mine
theorem a8h {α : Type} (l : List α) {a b : Nat} (hab : a <= b) (hb : b <= l.length) : a2a l (some (a : Int)) (some (b : Int)) = (l.drop a).take (b - a) := by
 unfold a2a
 have e : sliceBounds (some (a : Int)) (some (b : Int)) none l.length = ((a : Int), (b : Int), 1) := by
  simp only [sliceBounds, Option.getD_none]
  have h1 : ¬ ((a : Int) < 0) := by exact om20
  have h2 : ¬ ((b : Int) < 0) := by exact om20
  simp only [h1, h2, if_false]
  simp
  exact om30 hab hb
 erw [e]
 have e2 : sliceRange (a : Int) (b : Int) 1 = (List.range (b - a)).map fun k => a + k := by
  unfold sliceRange
  simp only [show (1 : Int) > 0 from by decide, if_true]
  by_cases h : (a : Int) < b
  ·simp only [h, if_true]
   have : (((b : Int) - a + 1 - 1) / 1).toNat = b - a := by exact om31
   erw [this]
   refine List.map_congr_left fun k ζ => ?_
   exact om32
  ·simp only [h, if_false]
   have : b - a = 0 := by exact om33 h
   erw [this]; simp
 erw [e2, List.filterMap_map]
 apply List.ext_getElem?
 intro i
 have key : ∀ (n : Nat), n <= l.length - a -> (List.range n).filterMap ((fun x => l[x]?) ∘ fun k => a + k) = (l.drop a).take n := by
  intro n
  induction n with
  | zero => simp
  | succ n ih =>
   intro hn
   erw [List.range_succ, List.filterMap_append, ih (om34 hn)]
   have hlt : a + n < l.length := by exact om35 hn
   simp only [List.filterMap_cons, List.filterMap_nil, Function.comp_apply, List.getElem?_eq_getElem hlt]
   erw [List.take_add_one]
   simp [hlt]
 erw [key (b - a) (om36 hb)]
theorem c5v {α : Type} (l : List α) {b : Nat} (hb : b <= l.length) : a2a l none (some (b : Int)) = l.take b := by
 have e : a2a l none (some (b : Int)) = a2a l (some ((0 : Nat) : Int)) (some (b : Int)) := by
  unfold a2a
  have : sliceBounds none (some (b : Int)) none l.length = sliceBounds (some ((0 : Nat) : Int)) (some (b : Int)) none l.length := by
   simp only [sliceBounds, Option.getD_none]
   simp
   exact om37
  erw [this]
 erw [e, a8h l (Nat.zero_le _) hb]; simp
theorem b8q {α : Type} (l : List α) {a : Nat} (ha : a <= l.length) : a2a l (some (a : Int)) none = l.drop a := by
 have e : a2a l (some (a : Int)) none = a2a l (some (a : Int)) (some ((l.length : Nat) : Int)) := by
  unfold a2a
  have : sliceBounds (some (a : Int)) none none l.length = sliceBounds (some (a : Int)) (some ((l.length : Nat) : Int)) none l.length := by
   simp only [sliceBounds, Option.getD_none]
   simp
   omega
  erw [this]
 erw [e, a8h l ha (Nat.le_refl _)]
 exact List.take_of_length_le (by simp)
section
variable {W : World0} {k : Nat} {σ : List O} {ρ : List (Option V)} {tape tape2 tape3 : List D} {cs cs2 cs3 : List Prop}
theorem TEq.sliceTo {a hi : CE} {v : V} {xs : List D} {n : Nat} (h : pv W k σ ρ a [] tape = some (v, cs, [])) (hc : AllP cs) (h2 : pv W k σ ρ hi [] tape2 = some (.d (.int (n : Int)), cs2, [])) (hc2 : AllP cs2) (hl : lstV σ v = some xs) (hn : n <= xs.length) (hz : xs.length <= 16777216) : TEq W k (.slice a none (some hi)) ρ σ (.lst (xs.take n)) :=
 TE.slice (TE.ev h hc (TE.ev h2 hc2 ⟨_, rfl, xs, hl, hz, by erw [c5v _ hn], rfl⟩))
theorem TEq.sliceFrom {a lo : CE} {v : V} {xs : List D} {n : Nat} (h : pv W k σ ρ a [] tape = some (v, cs, [])) (hc : AllP cs) (h2 : pv W k σ ρ lo [] tape2 = some (.d (.int (n : Int)), cs2, [])) (hc2 : AllP cs2) (hl : lstV σ v = some xs) (hn : n <= xs.length) (hz : xs.length <= 16777216) : TEq W k (.slice a (some lo) none) ρ σ (.lst (xs.drop n)) :=
 TE.slice (TE.ev h hc (TE.ev h2 hc2 ⟨_, rfl, xs, hl, hz, by erw [b8q _ hn], rfl⟩))
end
noncomputable def IsN (s : Nat) (r : D) : Prop := ∃ b : Nat, b < s /\ r = .int (b : Int)
theorem c5w (z : Int) {s : Nat} (hs : 0 < s) : IsN s (.int (z.fmod s)) := by
 refine xEA (a2r z hs) fun m h e => ?_
 exact ⟨m, h, by erw [e]⟩
theorem far3 {c u : Nat} (hc : c < 3) (hu : u < 3) (h : c ≠ u) : 3 - u - c < 3 /\ (3 : Int) - (u : Int) - (c : Int) = ((3 - u - c : Nat) : Int) := (by decide : ∀ c : Nat, c < 3 -> ∀ u : Nat, u < 3 -> c ≠ u -> (3 - u - c < 3 /\ (3 : Int) - (u : Int) - (c : Int) = ((3 - u - c : Nat) : Int))) c hc u hu h
section
variable {W : World0} {k : Nat}
theorem b5j (H : HasL W) {n : Nat} (hn : n < 9) (way : Int) : ESpec W (k + 1) "_law_beside" [.d (.int n), .d (.int way)] (IsN 3) := by
 obtain ⟨u, hu, eu⟩ : ∃ u : Nat, u < 3 /\ (way.fdiv 2).fmod 3 = (u : Int) := a2r (way.fdiv 2) (b := 3) (by decide)
 obtain ⟨v, hv, ev⟩ : ∃ v : Nat, v < 2 /\ way.fmod 2 = (v : Int) := a2r way (b := 2) (by decide)
 have e1 : (n : Int).fdiv 3 = ((n / 3 : Nat) : Int) := a5q n 3
 have e2 : (n : Int).fmod 3 = ((n % 3 : Nat) : Int) := a2p n 3
 obtain ⟨c, m, hc, hm, hs⟩ : ∃ c m : Nat, c < 3 /\ m < 3 /\ SubV [] (.d (.lst [.tup [.int ((n : Int).fdiv 3), .int ((n : Int).fmod 3)], .tup [.int ((n : Int).fmod 3), .int ((n : Int).fdiv 3)]])) (.d (.int (way.fmod 2))) (.d (.tup [.int (c : Int), .int (m : Int)])) := by
  erw [ev, e1, e2]
  rcases lt2 hv with rfl | rfl
  ·exact ⟨n / 3, n % 3, Nat.div_lt_of_lt_mul hn, Nat.mod_lt _ (by decide), a0p (b := true) (n := 0) rfl (by decide : 2 <= 16777216) rfl⟩
  ·exact ⟨n % 3, n / 3, Nat.mod_lt _ (by decide), Nat.div_lt_of_lt_mul hn, a0p (b := true) (n := 1) rfl (by decide : 2 <= 16777216) rfl⟩
 refine ESpec.intro H.beside rfl (ET.asg rfl ⟨by decide, ⟨by decide, by decide⟩, trivial⟩ ?_)
 erw [eu]
 refine ET.asgT (tape := [.tup [.int (c : Int), .int (m : Int)]]) rfl ⟨hs, by decide, ⟨by decide, by decide⟩, by decide, by decide, ⟨by decide, by decide⟩, trivial⟩ rfl rfl (ET.ifV rfl trivial (fun h => ?_) fun ζ => ET.ret rfl trivial ⟨c, hc, rfl⟩)
 rw [Bool.and_eq_true, Bool.not_eq_true'] at h
 have := far3 hc hu (bneN h.2)
 exact ET.ret rfl trivial ⟨3 - u - c, this.1, by erw [← this.2]⟩
theorem b3i (H : HasL W) (n : Nat) (way : Int) : ESpec W (k + 1) "_law_between" [.d (.int n), .d (.int way)] (IsN 2) := by
 obtain ⟨u, hu, eu⟩ : ∃ u : Nat, u < 2 /\ (way.fdiv 2).fmod 2 = (u : Int) := a2r (way.fdiv 2) (b := 2) (by decide)
 obtain ⟨v, hv, ev⟩ : ∃ v : Nat, v < 2 /\ way.fmod 2 = (v : Int) := a2r way (b := 2) (by decide)
 refine ESpec.intro H.between rfl (ET.asg rfl ⟨by decide, by decide, ⟨by decide, by decide⟩, by decide, ⟨by decide, by decide⟩, ⟨by decide, by decide⟩, trivial⟩ (ET.asg rfl ⟨by decide, ⟨by decide, by decide⟩, trivial⟩ ?_))
 erw [eu]
 generalize (n : Int).fdiv 8 = c0
 generalize ((n : Int).fdiv 4).fmod 2 = c1
 generalize ((n : Int).fdiv 2).fmod 2 = c2
 generalize (n : Int).fmod 2 = c3
 obtain ⟨x, hx⟩ : ∃ x : List D, SubV [] (.d (.lst [.lst [.int 1, .int 0, .int 1], .lst [.int 0, .int 1, .int 0]])) (.d (.int (way.fmod 2))) (.d (.lst x)) /\ a0r x = true := by
  erw [ev]
  rcases lt2 hv with rfl | rfl
  ·exact ⟨_, a0p (b := true) (n := 0) rfl (by decide : 2 <= 16777216) rfl, rfl⟩
  ·exact ⟨_, a0p (b := true) (n := 1) rfl (by decide : 2 <= 16777216) rfl, rfl⟩
 have key : ∀ {at1 : Nat} {ca ra rb rc : Int}, at1 + 1 <= 4 -> (([D.int c0, .int c1, .int c2, .int c3].take at1) ++ ([D.int c0, .int c1, .int c2, .int c3].drop (at1 + 1)) = [.int ra, .int rb, .int rc]) -> [D.int c0, .int c1, .int c2, .int c3][at1]? = some (.int ca) ->
   ET W k [.asg 4 (.bin .Add (.slice (.var 2) none (some (.var 3))) (.slice (.var 2) (some (.bin .Add (.var 3) (.int 1))) none)), .ret (.bin .Mod (.bin .Add (.sub (.var 2) (.var 3)) (.prim "int" [(.cmp .Eq (.var 4) (.sub (.lst [(.lst [(.int 1), (.int 0), (.int 1)]), (.lst [(.int 0), (.int 1), (.int 0)])]) (.bin .Mod (.var 1) (.int 2))))])) (.int 2))]
    [some (.d (.int (n : Int))), some (.d (.int way)), some (.d (.lst [.int c0, .int c1, .int c2, .int c3])), some (.d (.int (at1 : Int))), none] [] (IsN 2) := by
  intro at1 ca ra rb rc ha hr hca
  refine ET.asg (tape := [.lst ([D.int c0, .int c1, .int c2, .int c3].take at1), .lst ([D.int c0, .int c1, .int c2, .int c3].drop (at1 + 1))]) rfl ⟨by erw [← List.length_append, hr]; exact (by decide : 3 <= 16777216),
   TEq.sliceFrom (n := at1 + 1) rfl trivial rfl trivial rfl ha (by decide : 4 <= 16777216), TEq.sliceTo rfl trivial rfl trivial rfl (Nat.le_of_succ_le ha) (by decide : 4 <= 16777216), trivial⟩ ?_
  erw [hr]
  refine ET.ret (tape := [.int ca, .int (if eqD (.lst [.int ra, .int rb, .int rc]) (.lst x) then 1 else 0)]) rfl ⟨by decide, TE.int1 H.ok (TE.ev (tape := [.lst x]) rfl ⟨⟨rfl, hx.2, (by decide : 1 <= 200)⟩, hx.1, by decide, trivial⟩ ⟨_, rfl, rfl, rfl⟩), a0p (b := true) rfl (by decide : 4 <= 16777216) hca, trivial⟩ (c5w _ (s := 2) (by decide))
 rcases lt2 hu with rfl | rfl
 ·exact key (at1 := 1) (by decide) rfl rfl
 ·exact key (at1 := 2) (by decide) rfl rfl
end
end Mine
end
section
open PySem PyProof.Rows
namespace Mine
theorem c9w {a b : List D} (h : D.tup a = .tup b) : a = b := by cases h; rfl
theorem OkS.pos {s w : Nat} (S : OkS s w) : 0 < s := Nat.lt_of_lt_of_le (by decide) S.s2
theorem OkS.s1000 {s w : Nat} (S : OkS s w) : s <= 1000 := Nat.le_trans S.s4 (by decide)
theorem OkS.ok {s w : Nat} (S : OkS s w) {t : List Nat} (h1 : t.length = s ^ w) (h2 : ∀ x ∈ t, x < s) : OkR s w t := ⟨S.s2, S.s4, S.w1, S.w4, S.rows, h1, h2⟩
theorem OkS.le {s w : Nat} (S : OkS s w) : s <= s ^ w := by
 have h := S.w1
 cases w with
 | zero => cases h
 | succ v => exact Nat.le_mul_of_pos_left s (Nat.pow_pos S.pos)
noncomputable def isRule (r : D) : Prop := ∃ (s w : Nat) (t : List Nat), OkR s w t /\ r = a0m s w t
section
variable {W : World0} {k : Nat}
theorem b7f {s : Nat} {ord : List Nat} (h1 : ord.length = s) (h2 : ∀ x ∈ ord, x < s) {b : Nat} (hb : b < s) : (0 : Int) <= ((ord.getD b 0 : Nat) : Int) /\ ((ord.getD b 0 : Nat) : Int) < s := by
 have hb' : b < ord.length := h1 ▸ hb
 erw [List.getD_eq_getElem?_getD, List.getElem?_eq_getElem hb']
 exact ⟨Int.natCast_nonneg _, Int.ofNat_lt.mpr (h2 _ (List.getElem_mem _))⟩
theorem b1i {s : Nat} {ord : List Nat} {σ : List O} (h1 : ord.length = s) (hs : s <= 1000) {b : Nat} (hb : b < s) : SubV σ (.d (.lst (a0a ord))) (.d (.int (b : Int))) (.d (.int ((ord.getD b 0 : Nat) : Int))) := by
 have hb' : b < ord.length := h1 ▸ hb
 refine a0p (b := true) rfl (by erw [a0e, h1]; exact a1r hs) (a3n ?_)
 erw [List.getD_eq_getElem?_getD, List.getElem?_eq_getElem hb']; rfl
theorem b5k (H : HasL W) {s w : Nat} {more : Int} (S : OkS s w) : ESpec W (k + 2) "_law_turned" [.d (.int s), .d (.int w), .d (.int ((s ^ w : Nat) : Int)), .d (.int more)] (c1t s (s ^ w)) := by
 have hs := S.pos
 have hs1 := S.s1000
 obtain ⟨v, hv, ev⟩ : ∃ v : Nat, v < 2 /\ (more.fdiv 64).fmod 2 = (v : Int) := a2r (more.fdiv 64) (b := 2) (by decide)
 obtain ⟨u, hu, eu⟩ : ∃ u : Nat, u < w /\ (more.fdiv 16).fmod w = (u : Int) := a2r (more.fdiv 16) S.w1
 obtain ⟨m, hm⟩ : ∃ m : Int, SubV [] (.d (.lst [.int 1, .int ((s : Int) - 1)])) (.d (.int ((more.fdiv 64).fmod 2))) (.d (.int m)) := by
  erw [ev]
  rcases lt2 hv with rfl | rfl
  ·exact ⟨_, a0p (b := true) (n := 0) rfl (by decide : 2 <= 16777216) rfl⟩
  ·exact ⟨_, a0p (b := true) (n := 1) rfl (by decide : 2 <= 16777216) rfl⟩
 refine ESpec.intro H.turned rfl (ET.asgCR H.ok (fun j => .int ((more.fdiv 4 + (j : Int) * m).fmod s)) rfl trivial (a1r hs1) (fun j hj => TEq.ev (tape := [.int m]) rfl ⟨a2b hs, .inl (lt64 (Nat.le_trans (Nat.le_of_lt hj) hs1)), hm, by decide, ⟨by decide, by decide⟩, ⟨by decide, by decide⟩, trivial⟩) ?_)
 obtain ⟨ord, o1, o2, o3⟩ := c7r (s := s) (rows := s) (f := fun j => (more.fdiv 4 + (j : Int) * m).fmod s) fun j ζ => ⟨fm0 _ hs, fm1 _ hs⟩
 erw [c9w o3]
 clear o3
 refine ET.ifV rfl ⟨by decide, trivial⟩ (fun h => ?_) fun ζ => ET.ifV rfl ⟨by decide, trivial⟩ (fun h => ?_) fun ζ => ET.ifV rfl ⟨by decide, trivial⟩ (fun h => ?_) fun ζ => ?_
 ·rw [Bool.and_eq_true, Bool.and_eq_true] at h
  cases beqN (b := 4) h.1; cases beqN (b := 2) h.2.1
  refine ET.tab H.ok (rows := 16) (fun j => ((ord.getD (j / 8 * 2 + j % 2) 0 : Nat) : Int)) rfl trivial (by decide) (fun j hj => ?_) fun j hj => ?_
  all_goals have hb : j / 8 * 2 + j % 2 < 4 := (by decide : ∀ j, j < 16 -> j / 8 * 2 + j % 2 < 4) j hj
  ·exact b7f o1 o2 hb
  ·have e : (j : Int).fdiv 8 * 2 + (j : Int).fmod 2 = ((j / 8 * 2 + j % 2 : Nat) : Int) := by
    have e1 : (j : Int).fdiv 8 = ((j / 8 : Nat) : Int) := a5q j 8
    have e2 : (j : Int).fmod 2 = ((j % 2 : Nat) : Int) := a2p j 2
    erw [e1, e2]; rfl
   exact TEq.ev (tape := [.int ((ord.getD (j / 8 * 2 + j % 2) 0 : Nat) : Int)]) rfl ⟨e ▸ b1i o1 (by decide) hb, by decide, .inr (by decide), ⟨by decide, by decide⟩, trivial⟩
 ·rw [Bool.and_eq_true, Bool.and_eq_true] at h
  cases beqN (b := 3) h.1; cases beqN (b := 2) h.2.1
  have hB : ∀ j : Nat, ∃ b : Nat, j < 9 -> b < 3 /\ Spec W k.succ "_law_beside" [.d (.int j), .d (.int (more.fdiv 256))] (.int (b : Int)) := fun j => by
   by_cases hj : j < 9
   ·obtain ⟨r, ⟨b, hb, rfl⟩, sp⟩ := b5j (k := k) H hj (more.fdiv 256)
    exact ⟨b, fun ζ => ⟨hb, sp⟩⟩
   ·exact ⟨0, fun h => absurd h hj⟩
  refine xE (Classical.axiomOfChoice hB) fun g hg => ?_
  refine ET.tab H.ok (rows := 9) (fun j => ((ord.getD (g j) 0 : Nat) : Int)) rfl trivial (by decide) (fun j hj => b7f o1 o2 (hg j hj).1) fun j hj => ?_
  exact TEq.ev (tape := [.int ((g j : Nat) : Int), .int ((ord.getD (g j) 0 : Nat) : Int)]) rfl ⟨b1i o1 (by decide) (hg j hj).1, (hg j hj).2, ⟨by decide, by decide⟩, trivial⟩
 ·rw [Bool.and_eq_true, Bool.and_eq_true] at h
  cases beqN (b := 2) h.1; cases beqN (b := 4) h.2.1
  have hB : ∀ j : Nat, ∃ b : Nat, b < 2 /\ Spec W k.succ "_law_between" [.d (.int j), .d (.int (more.fdiv 256))] (.int (b : Int)) := fun j => by
   obtain ⟨r, ⟨b, hb, rfl⟩, sp⟩ := b3i (k := k) H j (more.fdiv 256)
   exact ⟨b, hb, sp⟩
  refine xE (Classical.axiomOfChoice hB) fun g hg => ?_
  refine ET.tab H.ok (rows := 16) (fun j => ((ord.getD (g j) 0 : Nat) : Int)) rfl trivial (by decide) (fun j hj => b7f o1 o2 (hg j).1) fun j hj => ?_
  exact TEq.ev (tape := [.int ((g j : Nat) : Int), .int ((ord.getD (g j) 0 : Nat) : Int)]) rfl ⟨b1i o1 (by decide) (hg j).1, (hg j).2, ⟨by decide, by decide⟩, trivial⟩
 ·obtain ⟨st, hst0, hst1, hst⟩ : ∃ st : Nat, 0 < st /\ st <= 1000 /\ SubV [] (.d (.lst [.int 1, .int (s : Int), .int ((s : Int) * (s : Int)), .int ((s : Int) * (s : Int) * (s : Int))])) (.d (.int ((more.fdiv 16).fmod w))) (.d (.int (st : Int))) := by
   erw [eu]
   have hu4 : u < 4 := Nat.lt_of_lt_of_le hu S.w4
   have hss : s * s <= 4 * 4 := Nat.mul_le_mul S.s4 S.s4
   have hsss : s * s * s <= 4 * 4 * 4 := Nat.mul_le_mul hss S.s4
   rcases (by decide : ∀ u, u < 4 -> (u = 0 ∨ u = 1 ∨ u = 2 ∨ u = 3)) u hu4 with rfl | rfl | rfl | rfl
   ·exact ⟨1, by decide, by decide, a0p (b := true) (n := 0) rfl (by decide : 4 <= 16777216) rfl⟩
   ·exact ⟨s, hs, hs1, a0p (b := true) (n := 1) rfl (by decide : 4 <= 16777216) rfl⟩
   ·exact ⟨s * s, Nat.mul_pos hs hs, Nat.le_trans hss (by decide), a0p (b := true) (n := 2) rfl (by decide : 4 <= 16777216) rfl⟩
   ·exact ⟨s * s * s, Nat.mul_pos (Nat.mul_pos hs hs) hs, Nat.le_trans hsss (by decide), a0p (b := true) (n := 3) rfl (by decide : 4 <= 16777216) rfl⟩
  refine ET.asg (tape := [.int (st : Int)]) rfl ⟨hst, a2b S.w1, ⟨by decide, by decide⟩, .inr (lt64 hs1), .inr (lt64 hs1), .inr (lt64 hs1), trivial⟩
   (ET.tab H.ok (fun j => ((ord.getD (j / st % s) 0 : Nat) : Int)) rfl trivial (Nat.le_trans S.rows (by decide)) (fun j hj => b7f o1 o2 (Nat.mod_lt _ hs)) fun j hj => ?_)
  have e : ((j : Int).fdiv st).fmod s = ((j / st % s : Nat) : Int) := by erw [a5q, a2p]
  exact TEq.ev (tape := [.int ((ord.getD (j / st % s) 0 : Nat) : Int)]) rfl ⟨e ▸ b1i o1 hs1 (Nat.mod_lt _ hs), a2b hs, ⟨a2b hst0, Nat.lt_of_le_of_lt hst1 (by decide)⟩, trivial⟩
theorem c1u (H : HasL W) (cell more : Int) : ESpec W (k + 3) "_law_rule" [.d (.int cell), .d (.int more)] isRule := by
 obtain ⟨u, hu, eu⟩ : ∃ u : Nat, u < 8 /\ cell.fmod 8 = (u : Int) := a2r cell (b := 8) (by decide)
 obtain ⟨s, w, S, hg⟩ : ∃ s w : Nat, OkS s w /\ SubV [] (.d (.lst [D.tup [.int 2, .int 3, .int 8], .tup [.int 2, .int 2, .int 4], .tup [.int 3, .int 2, .int 9], .tup [.int 4, .int 2, .int 16], .tup [.int 2, .int 1, .int 2], .tup [.int 2, .int 4, .int 16], .tup [.int 3, .int 1, .int 3], .tup [.int 4, .int 1, .int 4]])) (.d (.int (cell.fmod 8))) (.d (.tup [.int (s : Int), .int (w : Int), .int ((s ^ w : Nat) : Int)])) := by
  erw [eu]
  rcases lt8 hu with rfl | rfl | rfl | rfl | rfl | rfl | rfl | rfl
  ·exact ⟨2, 3, ⟨by decide, by decide, by decide, by decide, by decide⟩, a0p (b := true) (n := 0) rfl (by decide : 8 <= 16777216) rfl⟩
  ·exact ⟨2, 2, ⟨by decide, by decide, by decide, by decide, by decide⟩, a0p (b := true) (n := 1) rfl (by decide : 8 <= 16777216) rfl⟩
  ·exact ⟨3, 2, ⟨by decide, by decide, by decide, by decide, by decide⟩, a0p (b := true) (n := 2) rfl (by decide : 8 <= 16777216) rfl⟩
  ·exact ⟨4, 2, ⟨by decide, by decide, by decide, by decide, by decide⟩, a0p (b := true) (n := 3) rfl (by decide : 8 <= 16777216) rfl⟩
  ·exact ⟨2, 1, ⟨by decide, by decide, by decide, by decide, by decide⟩, a0p (b := true) (n := 4) rfl (by decide : 8 <= 16777216) rfl⟩
  ·exact ⟨2, 4, ⟨by decide, by decide, by decide, by decide, by decide⟩, a0p (b := true) (n := 5) rfl (by decide : 8 <= 16777216) rfl⟩
  ·exact ⟨3, 1, ⟨by decide, by decide, by decide, by decide, by decide⟩, a0p (b := true) (n := 6) rfl (by decide : 8 <= 16777216) rfl⟩
  ·exact ⟨4, 1, ⟨by decide, by decide, by decide, by decide, by decide⟩, a0p (b := true) (n := 7) rfl (by decide : 8 <= 16777216) rfl⟩
 have hr : s ^ w <= 1000 := Nat.le_trans S.rows (by decide)
 refine ESpec.intro H.rule rfl (ET.asg rfl trivial (ET.asgT (tape := [.tup [.int (s : Int), .int (w : Int), .int ((s ^ w : Nat) : Int)]]) rfl ⟨hg, by decide, trivial⟩ rfl rfl (ET.ifV rfl ⟨by decide, ⟨by decide, by decide⟩, trivial⟩ (fun ζ => ?_) fun ζ => ET.ifV rfl ⟨by decide, ⟨by decide, by decide⟩, trivial⟩ (fun ζ => ?_) fun ζ => ?_)))
 ·obtain ⟨r, ⟨t, t1, t2, rfl⟩, sp⟩ := b3h (k := k) H (more := more) S.pos S.le hr
  exact ET.ret (tape := [.tup (a0a t)]) rfl ⟨sp, trivial⟩ ⟨s, w, t, S.ok t1 t2, rfl⟩
 ·obtain ⟨r, ⟨t, t1, t2, rfl⟩, sp⟩ := b5k (k := k) H (more := more) S
  exact ET.ret (tape := [.tup (a0a t)]) rfl ⟨sp, trivial⟩ ⟨s, w, t, S.ok t1 t2, rfl⟩
 ·obtain ⟨r, ⟨t, t1, t2, rfl⟩, sp⟩ := b5i (k := k) H (more := more) S.pos hr
  exact ET.ret (tape := [.tup (a0a t)]) rfl ⟨sp, trivial⟩ ⟨s, w, t, S.ok t1 t2, rfl⟩
end
end Mine
end
section
open PySem PySem.W PyProof.Rows
namespace Mine
end Mine
end
section
open PySem PyProof.Rows PySem.SeqAt
namespace Mine
section
variable {W : World0} {k : Nat} {A : Around} {s s' s'' : Shared} {F : Addr -> Prop} {sc : Scope} {c : String} {mm : Bool}
variable {gl : Str -> Option Value} {X : Cx} {names : List Str} {ρ ρ' : List (Option V)} {σ σ' σ'' : List O} {Λ Λ' : Addr -> Prop} {ad ad' : List Addr}
end
end Mine
end
section
open PySem PyProof.Rows PySem.SeqAt
namespace Mine
structure XA where
 nm : Str
 q : Str
 N : Addr
 bs : List Value
 hdct : Bool
 sn : List Str
 sub : List Value
 ab : Bool
 col : Option Bool
 dd : Option Addr
 k0 : Option Value
 k1 : Option Value
 k2 : Option Value
 k3 : Option Value
 k5 : Option Value
 newId : String
section
variable {prog : Program} {w : World} {A : Around} {E : Value -> Shared -> Prop} {h : Heap} {g : Array GenState} {d : Drawn} {t : Nat} {os : OsState} {a C : Addr} {o : Obj} {xa : XA} {bm : List Value}
variable {mN : Str -> Option Value}
end
end Mine
end
section
open PySem PyProof.Rows PySem.SeqAt
namespace Mine
section
variable {prog : Program} {w : World} {A : Around} {E : Value -> Shared -> Prop} {s : Shared} {gl : Str -> Option Value} {CR C : Addr} {c y : String} {e : Addr} {oe : Obj}
end
end Mine
end
section
open PySem PyProof.Rows PySem.SeqAt
namespace Mine
section
variable {W : World0} {n : Nat} {X : Cx} {names : List Str} {ρ : List (Option V)} {s : Shared} {e : Addr} {c : String} {sc : Scope}
end
end Mine
end
section
open PySem PyProof.Rows PySem.SeqAt
namespace Mine
section
variable {W : World0} {k : Nat} {c : String} {b : D}
end
end Mine
end
section
open PySem PyProof.Rows PySem.SeqAt
namespace Mine
end Mine
end
section
open PySem PyProof.Rows PySem.SeqAt
namespace Mine
section
variable {W : World0} {k : Nat} {ρ : List (Option V)} {σ : List O} {b c : Bool}
end
section
variable {W : World0} {k : Nat} {ρ : List (Option V)} {σ : List O} {c : String} {mm : Bool}
end
end Mine
end
section
open PySem PyProof.Rows PySem.SeqAt
namespace Mine
section
variable {W : World0} {k : Nat} {ρ : List (Option V)} {σ : List O}
variable {Q : Out -> List (Option V) -> List O -> Prop}
end
end Mine
end
section
open PySem PyProof.Rows
namespace Mine
noncomputable def prs (s : Nat) (es : List Nat) : List (Nat × Nat) := es.flatMap fun e => (List.range s).map fun a => (e, a)
structure EJ (s N : Nat) (t : List Nat) (told : Nat) (ps : List (Nat × Nat)) (kvs : List (Int × D)) : Prop where
 nd : (kvs.map (·.1)).Nodup
 mem : ∀ z : Int, z ∈ kvs.map (·.1) ↔ ∃ p ∈ ps, t[p.1 * s + p.2]? = some told /\ z = (((p.1 * s + p.2) % N : Nat) : Int)
section
variable {s N : Nat} {t : List Nat} {told : Nat} {ps : List (Nat × Nat)} {kvs : List (Int × D)}
theorem EJ.nil : EJ s N t told [] [] := ⟨List.nodup_nil, fun z => ⟨fun h => absurd h List.not_mem_nil, fun ⟨_, h, _⟩ => absurd h List.not_mem_nil⟩⟩
theorem EJ.put (J : EJ s N t told ps kvs) {e a : Nat} (h : t[e * s + a]? = some told) {x : D} : EJ s N t told (ps ++ [(e, a)]) (Mine.put kvs (((e * s + a) % N : Nat) : Int) x) :=
 ⟨c1o J.nd, fun z => by
  rw [c9u, J.mem]
  constructor
  ·rintro (⟨p, hp, h'⟩ | rfl)
   ·exact ⟨p, List.mem_append_left _ hp, h'⟩
   ·exact ⟨(e, a), List.mem_append_right _ (.head _), h, rfl⟩
  ·rintro ⟨p, hp, h'⟩
   rcases List.mem_append.mp hp with hp | hp
   ·exact .inl ⟨p, hp, h'⟩
   ·cases List.mem_singleton.mp hp; exact .inr h'.2⟩
theorem EJ.skip (J : EJ s N t told ps kvs) {e a v : Nat} (h : t[e * s + a]? = some v) (hv : v ≠ told) : EJ s N t told (ps ++ [(e, a)]) kvs :=
 ⟨J.nd, fun z => by
  rw [J.mem]
  constructor
  ·rintro ⟨p, hp, h'⟩
   exact ⟨p, List.mem_append_left _ hp, h'⟩
  ·rintro ⟨p, hp, h'⟩
   rcases List.mem_append.mp hp with hp | hp
   ·exact ⟨p, hp, h'⟩
   ·cases List.mem_singleton.mp hp
    exact absurd (Option.some.inj (h.symm.trans h'.1)) hv⟩
theorem EJ.len (J : EJ s N t told ps kvs) (hN : 0 < N) : kvs.length <= N := by
 have := c5u (N := N) J.nd fun z hz => by
  refine xEAA ((J.mem z).mp hz) fun p ζ ζ e => ?_
  exact ⟨_, e, Nat.mod_lt _ hN⟩
 rwa [List.length_map] at this
theorem mem_prs {es : List Nat} {p : Nat × Nat} : p ∈ prs s es ↔ p.1 ∈ es /\ p.2 < s := by
 unfold prs
 rw [List.mem_flatMap]
 constructor
 ·rintro ⟨e, he, hp⟩
  obtain ⟨a, ha, rfl⟩ := List.mem_map.mp hp
  exact ⟨he, List.mem_range.mp ha⟩
 ·rintro ⟨h1, h2⟩
  exact ⟨p.1, h1, List.mem_map.mpr ⟨p.2, List.mem_range.mpr h2, rfl⟩⟩
theorem EJ.sort {ends : List Nat} (J : EJ s N t told (prs s ends) kvs) (hN : 0 < N) : a8c (kvs.map (·.1)) = (a1g s N t ends told).map fun (x : Nat) => (x : Int) :=
 c1q hN J.nd fun z => (J.mem z).trans ⟨fun ⟨p, hp, h1, h2⟩ => ⟨_, h2, p.1, (mem_prs.mp hp).1, p.2, (mem_prs.mp hp).2, h1, rfl⟩,
  fun ⟨m, e, a, h1, b, h2, h3, h4⟩ => ⟨(a, b), mem_prs.mpr ⟨h1, h2⟩, h3, by erw [e, ← h4]⟩⟩
theorem c5x {ends : List Nat} {n e : Nat} (h : ends[n]? = some e) : prs s (ends.take (n + 1)) = prs s (ends.take n) ++ (List.range s).map fun a => (e, a) := by
 erw [List.take_add_one, h]
 unfold prs
 erw [List.flatMap_append]; simp only [Option.toList, List.flatMap_cons, List.flatMap_nil, List.append_nil]
theorem c1v {a e : Nat} : (List.range (a + 1)).map (fun a => (e, a)) = (List.range a).map (fun a => (e, a)) ++ [(e, a)] := by erw [List.range_succ, List.map_append]; rfl
theorem a8i {w e a : Nat} (R : OkR s w t) (he : e < s ^ (w - 1)) (ha : a < s) : ∃ v, t[e * s + a]? = some v := by
 refine ⟨_, List.getElem?_eq_getElem ?_⟩
 erw [R.len, R.eq]
 have := Nat.mul_le_mul_right s (Nat.succ_le_of_lt he)
 rw [Nat.succ_mul] at this
 exact Nat.lt_of_lt_of_le (Nat.add_lt_add_left ha _) this
end
section
variable {W : World0} {k : Nat}
structure HasG (W : World0) : Prop where
 S : HasS W
 ends_behind : HasF W "ends_behind" F_ends_behind
theorem TEq.sortedD (hW : WOk W) {σ : List O} {ρ : List (Option V)} {e : CE} {tape : List D} {cs : List Prop} {v : V} {l : List (Int × D)} (h : pv W k σ ρ e [] tape = some (v, cs, [])) (hc : AllP cs) (hv : a0h σ v = some (.dI l)) (hl : l.length < 64) : TEq W k (.prim "sorted" [e]) ρ σ (.lst ((a8c (l.map (·.1))).map .int)) :=
 TE.sortedD hW (TE.ev h hc ⟨l, hv, hl, rfl, rfl⟩)
theorem a7c (H : HasG W) {s w : Nat} {t : List Nat} (R : OkR s w t) {ends : List Nat} {told : Nat} (he : ∀ e ∈ ends, e < s ^ (w - 1)) (hl : ends.length <= 1000) :
  Spec W (k + 4) "ends_behind" [.d (a0m s w t), .d (.tup (a0a ends)), .d (.int told)] (.tup (a0a (a1g s (s ^ (w - 1)) t ends told))) := by
 have hN := R.pos
 have h63 : ∀ {ps kvs}, EJ s (s ^ (w - 1)) t told ps kvs -> kvs.length < 64 := fun J => Nat.lt_of_le_of_lt (Nat.le_trans (J.len hN) R.n8) (by decide)
 refine Spec.intro H.ends_behind rfl (TS.cons (TS1.asg (TE.dct0 (.dI []) (.inl rfl) (TS.forS (k := k + 3) rfl trivial rfl rfl (by erw [List.length_map, a0e]; exact a1r hl)
  (fun n ρ σ => ∃ (x y : Option V) (kvs : List (Int × D)), ρ = [some (.d (a0m s w t)), some (.d (.tup (a0a ends))), some (.d (.int told)), some (.r 0), x, y] /\ σ = [.dI kvs] /\ EJ s (s ^ (w - 1)) t told (prs s (ends.take n)) kvs)
  ⟨none, none, [], rfl, rfl, .nil⟩ ?_ ?_))))
 ·rintro n x _ _ hx ⟨_, y, kvs, rfl, rfl, J⟩
  obtain ⟨e, hen, rfl⟩ := b7e hx
  refine TS.forR H.S.R.ok rfl trivial (a1r R.s1000) (fun a ρ σ => ∃ (y : Option V) (kvs : List (Int × D)), ρ = [some (.d (a0m s w t)), some (.d (.tup (a0a ends))), some (.d (.int told)), some (.r 0), some (.d (.int e)), y] /\ σ = [.dI kvs] /\ EJ s (s ^ (w - 1)) t told (prs s (ends.take n) ++ (List.range a).map fun a => (e, a)) kvs)
   ⟨y, kvs, rfl, rfl, by erw [List.range_zero, List.map_nil, List.append_nil]; exact J⟩ ?_ ?_
  ·rintro a _ _ ha ⟨_, kvs, rfl, rfl, J⟩
   refine xE (a8i R (he e (List.mem_of_getElem? hen)) ha) fun v hv => ?_
   have K : ∀ kvs', EJ s (s ^ (w - 1)) t told ((prs s (ends.take n) ++ (List.range a).map fun a => (e, a)) ++ [(e, a)]) kvs' -> EJ s (s ^ (w - 1)) t told (prs s (ends.take n) ++ (List.range (a + 1)).map fun a => (e, a)) kvs' := fun ζ h => by rwa [c1v, ← List.append_assoc]
   refine TS.iteV (tape := [.int v]) rfl ⟨a3o H.S R hv, trivial⟩ (fun h => ?_) fun h => ?_
   ·cases beqN h
    exact TS.putV (tape3 := [.int (((e * s + a) % s ^ (w - 1) : Nat) : Int)]) rfl trivial rfl trivial rfl ⟨a4s H.S R e a, trivial⟩ (.dI rfl rfl (Nat.le_trans (Nat.le_of_lt (h63 J)) (by decide))) (TS.nil (TS.nil ⟨_, _, rfl, rfl, K _ (J.put hv)⟩))
   ·exact TS.nil (TS.nil ⟨_, _, rfl, rfl, K _ (J.skip hv (bneN h))⟩)
  ·rintro _ _ ⟨y, kvs, rfl, rfl, J⟩
   exact TS.nil ⟨_, _, _, rfl, rfl, by erw [c5x hen]; exact J⟩
 ·rintro _ _ ⟨_, y, kvs, rfl, rfl, J⟩
  rw [List.length_map, a0e, List.take_length] at J
  have hk : (a8c (kvs.map (·.1))).map D.int = a0a (a1g s (s ^ (w - 1)) t ends told) := by erw [J.sort hN]; exact b7d _
  refine TS.retV (tape := [.tup (a0a (a1g s (s ^ (w - 1)) t ends told))]) rfl ⟨TEq.tuple H.S.R.ok (hk ▸ TEq.sortedD H.S.R.ok rfl trivial rfl (h63 J)) ?_, trivial⟩ rfl
  erw [← hk, List.length_map, (a6f _).length_eq, List.length_map]
  exact Nat.le_trans (Nat.le_of_lt (h63 J)) (by decide)
end
end Mine
end
section
open PySem PyProof.Rows
namespace Mine
theorem b3j {s N : Nat} {t : List Nat} {M : Nat} (h : M = (gone s N t M).length) : ∀ j, gone s N t (M + j) = gone s N t M
 | 0 => rfl
 | j + 1 => by
  have ih := b3j h j
  show (match (gone s N t (M + j))[M + j]? with | none => gone s N t (M + j) | some p => adds s N t p.1 p.2 (gone s N t (M + j)) s) = _
  rw [ih, List.getElem?_eq_none (by rw [← h]; exact Nat.le_add_right _ _)]
noncomputable def a4t (s N : Nat) (t : List Nat) : List (List Nat × List Nat) := gone s N t 256
theorem c5y {s N : Nat} {t : List Nat} {M : Nat} (h : M = (gone s N t M).length) (hM : M <= 256) : a4t s N t = gone s N t M := by
 unfold a4t
 have := b3j h (256 - M)
 rwa [Nat.add_sub_cancel' hM] at this
theorem b1j {s N : Nat} {t : List Nat} (hN : N <= 8) (i : Nat) : (gone s N t i).length <= 256 := Nat.le_trans (b1f s N t i).len (Nat.pow_le_pow_right (n := 2) (by decide) hN)
theorem b3k {s N : Nat} {t : List Nat} {i : Nat} {p : List Nat × List Nat} (h : (gone s N t i)[i]? = some p) : gone s N t (i + 1) = adds s N t p.1 p.2 (gone s N t i) s := by
 show (match (gone s N t i)[i]? with | none => gone s N t i | some p => adds s N t p.1 p.2 (gone s N t i) s) = _
 erw [h]
theorem c5z {s N : Nat} {t ends piece : List Nat} {fs : List (List Nat × List Nat)} {a : Nat} (h : a1g s N t ends a ∈ (adds s N t ends piece fs a).map (·.1)) : adds s N t ends piece fs (a + 1) = adds s N t ends piece fs a := by
 show (if _ then _ else _) = _
 erw [if_pos h]
theorem c6a {s N : Nat} {t ends piece : List Nat} {fs : List (List Nat × List Nat)} {a : Nat} (h : a1g s N t ends a ∉ (adds s N t ends piece fs a).map (·.1)) : adds s N t ends piece fs (a + 1) = adds s N t ends piece fs a ++ [(a1g s N t ends a, piece ++ [a])] := by
 show (if _ then _ else _) = _
 erw [if_neg h]
theorem c9x (s N : Nat) (t ends piece : List Nat) (fs : List (List Nat × List Nat)) (a : Nat) : fs.length <= (adds s N t ends piece fs a).length := by
 obtain ⟨r, hr⟩ := b1e s N t ends piece fs a
 erw [hr, List.length_append]; exact Nat.le_add_right _ _
theorem a6h (l : List Nat) (a : Nat) : a0a l ++ [.int (a : Int)] = a0a (l ++ [a]) := by unfold a0a; erw [List.map_append]; rfl
theorem a2y {n : Nat} (h : n <= 256) : n <= 16777216 := Nat.le_trans h (by decide)
section
variable {W : World0} {k : Nat}
structure HasE (W : World0) : Prop where
 G : HasG W
 gone_through : HasF W "gone_through" F_gone_through
 missing : HasF W "missing" F_missing
theorem TEq.tupRange (hW : WOk W) {σ : List O} {ρ : List (Option V)} {e : CE} {tape : List D} {cs : List Prop} {m : Nat} (h : pv W k σ ρ e [] tape = some (.d (.int (m : Int)), cs, [])) (hc : AllP cs) (hm : m <= 16777216) : TEq W k (.prim "tuple" [.prim "range" [e]]) ρ σ (.tup (a0a (List.range m))) :=
 TE.tupRange hW (TE.ev h hc ⟨m, rfl, c1l m, Int.ofNat_le.mpr hm, by erw [Int.toNat_natCast]; exact ⟨rfl, rfl⟩⟩)
theorem a6i (H : HasE W) {s w : Nat} {t : List Nat} (R : OkR s w t) : Spec W (k + 5) "gone_through" [.d (a0m s w t)] (.lst ((a4t s (s ^ (w - 1)) t).map a9e)) := by
 have hN := R.pos
 have hN8 := R.n8
 refine Spec.intro H.gone_through rfl (TS.asgV (tape := [.tup (a0a (List.range (s ^ (w - 1))))]) rfl ⟨TEq.tupRange H.G.S.R.ok (tape := [.int ((s ^ (w - 1) : Nat) : Int)]) rfl ⟨a2w H.G.S R, trivial⟩ (a2y (Nat.le_trans hN8 (by decide))), trivial⟩
  (TS.asgD1 (ks := keyZ (List.range (s ^ (w - 1)))) rfl trivial (b7d _).symm rfl trivial (TS.asgL rfl trivial rfl (by decide : 1 <= 16777216) (TS.asgV rfl trivial
  (TS.whileV (fun n ρ σ => ∃ (i : Nat) (x5 x6 x7 x8 : Option V), n = 257 - i /\ i <= (gone s (s ^ (w - 1)) t i).length /\
  ρ = [some (.d (a0m s w t)), some (.d (.tup (a0a (List.range (s ^ (w - 1)))))), some (.r 0), some (.r 1), some (.d (.int i)), x5, x6, x7, x8] /\ σ = [.dT (metD (gone s (s ^ (w - 1)) t i)), .lst ((gone s (s ^ (w - 1)) t i).map a9e)]) 257 ⟨0, none, none, none, none, rfl, Nat.zero_le _, rfl, rfl⟩ ?_)))))
 rintro n _ _ ⟨i, x5, x6, x7, x8, rfl, hi, rfl, rfl⟩
 have G := b1f s (s ^ (w - 1)) t i
 have hG := b1j (s := s) (t := t) hN8 i
 have hGm : ((gone s (s ^ (w - 1)) t i).map a9e).length = (gone s (s ^ (w - 1)) t i).length := List.length_map _
 refine ⟨_, TCv.ev (tape := [.int (((gone s (s ^ (w - 1)) t i).map a9e).length : Int)]) rfl ⟨TEq.len H.G.S.R.ok rfl trivial rfl rfl (hGm ▸ a2y hG), trivial⟩, fun hd => ?_, fun hd => ?_⟩
 ·rw [hGm, decide_eq_true_eq, Int.ofNat_lt] at hd
  obtain ⟨p, hp⟩ : ∃ p, (gone s (s ^ (w - 1)) t i)[i]? = some p := ⟨_, List.getElem?_eq_getElem hd⟩
  have hpm := List.mem_of_getElem? hp
  have hi256 : i < 257 := Nat.lt_of_lt_of_le hd (Nat.le_succ_of_le hG)
  refine TS.asgTV (tape := [a9e p]) rfl ⟨a0p (l := (gone s (s ^ (w - 1)) t i).map a9e) rfl (hGm ▸ a2y hG) (by erw [List.getElem?_map, hp]; rfl), trivial⟩ rfl rfl (TS.asgV rfl trivial
   (TS.forR H.G.S.R.ok rfl trivial (a1r R.s1000) (fun a ρ σ => ∃ (x7 x8 : Option V), ρ = [some (.d (a0m s w t)), some (.d (.tup (a0a (List.range (s ^ (w - 1)))))), some (.r 0), some (.r 1), some (.d (.int ((i + 1 : Nat) : Int))), some (.d (.tup (a0a p.1))), some (.d (.lst (a0a p.2))), x7, x8] /\
    σ = [.dT (metD (adds s (s ^ (w - 1)) t p.1 p.2 (gone s (s ^ (w - 1)) t i) a)), .lst ((adds s (s ^ (w - 1)) t p.1 p.2 (gone s (s ^ (w - 1)) t i) a).map a9e)]) ⟨x7, x8, rfl, rfl⟩ ?_ ?_))
  ·rintro a _ _ ha ⟨_, x8, rfl, rfl⟩
   have G' := b5h G (G.rch p hpm) (G.sgn p hpm) (G.pl p hpm) (Nat.le_of_lt ha)
   have hG' : (adds s (s ^ (w - 1)) t p.1 p.2 (gone s (s ^ (w - 1)) t i) a).length <= 256 := Nat.le_trans G'.len (Nat.pow_le_pow_right (n := 2) (by decide) hN8)
   have hp2 : p.2.length < 256 := Nat.lt_of_lt_of_le (G.pl p hpm) hG
   refine TS.asgV (tape := [.tup (a0a (a1g s (s ^ (w - 1)) t p.1 a))]) rfl ⟨a7c H.G R (G.lt p hpm) (Nat.le_trans (b5g (G.can p hpm)) (Nat.le_trans hN8 (by decide))), trivial⟩
    (TS.iteC (TCv.cmp (TEv.ev rfl trivial) (TEv.ev rfl trivial) (.notInDT (ks := keyZ (a1g s (s ^ (w - 1)) t p.1 a)) (by erw [b7d]; rfl) rfl)) (fun h => ?_) fun h => ?_)
   ·rw [a2q, Bool.not_eq_true', decide_eq_false_iff_not] at h
    refine TS.putV rfl trivial rfl trivial rfl trivial (.dT (i := keyZ (a1g s (s ^ (w - 1)) t p.1 a)) rfl (by erw [b7d]; rfl) (by unfold metD; erw [List.length_map]; exact a2y hG'))
     (TS.appV rfl rfl (by erw [List.length_map]; exact a2y hG') rfl ⟨by erw [a0e]; exact Nat.le_trans (Nat.succ_le_of_lt hp2) (by decide), trivial⟩ (TS.nil (TS.nil ⟨_, _, rfl, ?_⟩)))
    erw [c6a h, b1g (q := p.2 ++ [a]) h, List.map_append]
    show _ = [_, O.lst (_ ++ [a9e _])]
    unfold a9e
    erw [← a6h]; rfl
   ·rw [a2q, Bool.not_eq_false', decide_eq_true_eq] at h
    exact TS.nil (TS.nil ⟨_, _, rfl, by erw [c5z h]⟩)
  ·rintro _ _ ⟨x7, x8, rfl, rfl⟩
   refine TS.nil ⟨257 - (i + 1), Nat.sub_lt_sub_left hi256 (Nat.lt_succ_self i), i + 1, some (.d (.tup (a0a p.1))), some (.d (.lst (a0a p.2))), x7, x8, rfl, ?_, rfl, ?_⟩
   ·erw [b3k hp]; exact Nat.le_trans (Nat.succ_le_of_lt hd) (c9x _ _ _ _ _ _ _)
   ·erw [b3k hp]
 ·rw [hGm, decide_eq_false_iff_not, Int.ofNat_lt] at hd
  have he : i = (gone s (s ^ (w - 1)) t i).length := Nat.le_antisymm hi (Nat.le_of_not_lt hd)
  refine TS.retV rfl trivial ?_
  show some (D.lst _) = _
  erw [c5y he (he ▸ hG)]
end
end Mine
end
section
open PySem PyProof.Rows
namespace Mine
theorem b1k {α : Type} {f : α -> D} {l : List α} {n : Nat} {x : V} (h : ((l.map f).map V.d)[n]? = some x) : ∃ a, l[n]? = some a /\ x = .d (f a) := by
 rw [List.map_map, List.getElem?_map] at h
 cases e : l[n]? with
 | none => rw [e] at h; exact dNS h
 | some a => rw [e] at h; cases h; exact ⟨a, rfl, rfl⟩
theorem c9y (l : List Nat) : dep (.tup (a0a l)) <= 200 := by
 show deps (a0a l) + 1 <= 200
 erw [a5p]; decide
theorem c1w {α : Type} {l : List α} {n : Nat} {a : α} (h : l[n]? = some a) : l.take (n + 1) = l.take n ++ [a] := by erw [List.take_add_one, h]; rfl
theorem c9z {fs : List (List Nat × List Nat)} {n : Nat} {p : List Nat × List Nat} (hp : fs[n]? = some p) (he : p.1.isEmpty = true) (hn : ∀ q ∈ fs.take n, q.1.isEmpty = false) : fs.find? (fun p => p.1.isEmpty) = some p := by
 rw [List.find?_eq_some_iff_append]
 obtain ⟨h1, h2⟩ := List.getElem?_eq_some_iff.mp hp
 refine ⟨he, fs.take n, fs.drop (n + 1), ?_, fun q hq => by erw [hn q hq]; rfl⟩
 erw [← h2, List.getElem_cons_drop h1, List.take_append_drop]
section
variable {W : World0} {k : Nat}
theorem c1x {s w : Nat} {t : List Nat} (R : OkR s w t) : (a4t s (s ^ (w - 1)) t).length <= 16777216 := a2y (b1j R.n8 256)
theorem b3l (H : HasE W) {s w : Nat} {t : List Nat} (R : OkR s w t) : Spec W (k + 6) "missing" [.d (a0m s w t)] (c1s (a4t s (s ^ (w - 1)) t)) := by
 refine Spec.intro H.missing rfl (TS.exV (tape := [.none]) rfl ⟨a1y H.G.S.R R, trivial⟩ (TS.forTS (tape := [.lst ((a4t s (s ^ (w - 1)) t).map a9e)]) rfl ⟨a6i H R, trivial⟩ rfl rfl (by erw [List.length_map, List.length_map]; exact c1x R)
  (fun n ρ σ => ∃ x y, ρ = [some (.d (a0m s w t)), x, y] /\ σ = [] /\ ∀ p ∈ (a4t s (s ^ (w - 1)) t).take n, p.1.isEmpty = false) ⟨none, none, rfl, rfl, fun p h => by rw [List.take_zero] at h; cases h⟩ ?_ ?_))
 ·rintro n x _ _ hx ⟨_, _, rfl, rfl, hn⟩
  obtain ⟨p, hp, rfl⟩ := b1k hx
  refine ⟨[.d (.tup (a0a p.1)), .d (.lst (a0a p.2))], rfl, rfl, TS.iteV rfl ⟨⟨a1v _, rfl, c9y _⟩, trivial⟩ (fun h => TS.retV rfl trivial ?_) fun h => TS.nil (TS.nil ⟨_, _, rfl, rfl, ?_⟩)⟩
  ·rw [a8g] at h
   show some _ = _
   unfold c1s
   erw [c9z hp h hn]
  ·rw [a8g] at h
   intro q hq
   rw [c1w hp] at hq
   rcases List.mem_append.mp hq with hq | hq
   ·exact hn q hq
   ·cases List.mem_singleton.mp hq; exact h
 ·rintro _ _ ⟨_, _, rfl, rfl, hn⟩
  rw [List.length_map, List.length_map, List.take_length] at hn
  refine TS.retV rfl trivial ?_
  show some _ = _
  unfold c1s
  rw [List.find?_eq_none.mpr fun p hp => by erw [hn p hp]; decide]
end
end Mine
end
section
namespace Mine
open PySem
end Mine
end
section
namespace Mine
open PySem PyProof.Rows
section
variable {prog : Program} {w : World} {A : Around} {E : Value -> Shared -> Prop} {s : Shared}
noncomputable def c6b (w : World) : Bool := !w.params.followText "set-order"
end
end Mine
end
section
namespace Mine
open PySem PyProof.Rows
section
variable {prog : Program} {w : World} {A : Around} {E : Value -> Shared -> Prop} {s : Shared}
end
end Mine
end
section
namespace Mine
open PySem PyProof.Rows
section
variable {prog : Program} {w : World} {A : Around} {R : Result -> Shared -> Prop} {I : Addr} {fp wr : List Addr} {G : Array GenState -> Array GenState -> Prop} {n : Nat} {P : Nat -> Value -> Prop} {St : Nat -> Shared -> Prop}
end
section
variable {prog : Program} {w : World} {A : Around} {E : Value -> Shared -> Prop} {s : Shared}
end
end Mine
end
section
namespace Mine
open PySem PyProof.Rows
theorem si_slot_next : Slot "set_iterator" "__next__" "set_iterator.__next__" :=
 .of (owner := "set_iterator") (n := "__next__") (by erw [typeLookup_type, builtinLookup_eq_fast]; kernel_rfl) (by decide +kernel) (by decide +kernel) (by decide +kernel)
  (by first | exact .inl (by decide +kernel) | exact .inr (by decide +kernel)) (by erw [isSubtype_type]; kernel_rfl)
theorem a5r : entryFor table "set_iterator.__next__" = some Builtin.«set_iterator.__next__» := entryFor_of_tree (by kernel_rfl)
theorem b7g : Manifest.owners.lookup (String.ofList ['r', 'o', 't', 'a', 'r', 'e', 't', 'i', '_', 't', 'e', 's'].reverse) = some Manifest.sig_set_iterator := by kernel_rfl
theorem a6s (a : Value) : argsOk "set_iterator.__next__" ⟨[a], []⟩ := by
 unfold argsOk; erw [signature?_of (id := "set_iterator.__next__") (n := ['_', '_', 't', 'x', 'e', 'n', '_', '_']) (o := ['r', 'o', 't', 'a', 'r', 'e', 't', 'i', '_', 't', 'e', 's']) (by kernel_rfl) b7g]; kernel_rfl
theorem a6t : Slot "set_iterator" "__iter__" "set_iterator.__iter__" :=
 .of (owner := "set_iterator") (n := "__iter__") (by erw [typeLookup_type, builtinLookup_eq_fast]; kernel_rfl) (by decide +kernel) (by decide +kernel) (by decide +kernel)
  (by first | exact .inl (by decide +kernel) | exact .inr (by decide +kernel)) (by erw [isSubtype_type]; kernel_rfl)
theorem b1l : entryFor table "set_iterator.__iter__" = some Builtin.«dict_keyiterator.__iter__» :=
 entryFor_alias (id' := "dict_keyiterator.__iter__") (by kernel_rfl) rfl (by decide +kernel) (by kernel_rfl)
theorem b3m (a : Value) : argsOk "set_iterator.__iter__" ⟨[a], []⟩ := by
 unfold argsOk; erw [signature?_of (id := "set_iterator.__iter__") (n := ['_', '_', 'r', 'e', 't', 'i', '_', '_']) (o := ['r', 'o', 't', 'a', 'r', 'e', 't', 'i', '_', 't', 'e', 's']) (by kernel_rfl) b7g]; kernel_rfl
theorem a9f : entryFor table "set.__iter__" = some Builtin.«frozenset.__iter__» :=
 entryFor_alias (id' := "frozenset.__iter__") (by kernel_rfl) rfl (by decide +kernel) (by kernel_rfl)
noncomputable def ordN (w : World) (a : Addr) (ep : Nat) (es : Array (Int × Value)) : Array (Int × Value) := if w.params.followText "set-order" then pickOrder (w.params.setOrder a ep) es else es
theorem a9y {α : Type} : ∀ {l : List α} {i : Nat} (h : i < l.length), (l[i] :: l.eraseIdx i).Perm l
 | a :: l, 0, _ => List.Perm.refl _
 | a :: l, i + 1, h => by
  simp only [List.getElem_cons_succ, List.eraseIdx_cons_succ]
  exact (List.Perm.swap _ _ _).trans ((a9y (by simpa using h)).cons a)
theorem d0a {α : Type} (next : Nat -> Nat) (fuel : Nat) : ∀ (k : Nat) (left : List α) (out : Array α), left.length = fuel -> (pickOrder.go next fuel k left out).toList.Perm (out.toList ++ left) := by
 induction fuel with
 | zero => intro k left out h; erw [List.length_eq_zero_iff.mp h, List.append_nil]; exact .refl _
 | succ fuel ih =>
  intro k left out h
  have hlt : next k % left.length < left.length := Nat.mod_lt _ (h ▸ Nat.succ_pos fuel)
  show (match left[next k % left.length]? with | some x => pickOrder.go next fuel (k + 1) (left.eraseIdx (next k % left.length)) (out.push x) | none => out).toList.Perm _
  erw [List.getElem?_eq_getElem hlt]
  refine (ih (k + 1) _ _ (by erw [List.length_eraseIdx_of_lt hlt, h]; rfl)).trans ?_
  erw [Array.toList_push, List.append_assoc]
  refine List.Perm.append_left _ ?_
  exact a9y hlt
theorem c1y {α : Type} (next : Nat -> Nat) (xs : Array α) : (pickOrder next xs).toList.Perm xs.toList := by
 have := d0a next xs.size 0 xs.toList #[] (by simp)
 simpa [pickOrder] using this
theorem a5s (w : World) (a : Addr) (ep : Nat) (es : Array (Int × Value)) : (ordN w a ep es).toList.Perm es.toList := by
 unfold ordN
 split
 ·exact c1y _ _
 ·exact List.Perm.refl _
section
variable {prog : Program} {w : World} {A : Around} {E : Value -> Shared -> Prop} {s : Shared}
end
end Mine
end
section
namespace Mine
open PySem PyProof.Rows
section
variable {prog : Program} {w : World} {A : Around} {E : Value -> Shared -> Prop} {s : Shared}
theorem a9z (v : Value) : slotArgs "__next__" 0 ⟨[v], []⟩ = pure (v, []) := rfl
end
end Mine
end
section
namespace Mine
open PySem PyProof.Rows
section
variable {prog : Program} {w : World} {A : Around} {E : Value -> Shared -> Prop} {s : Shared}
theorem c6c {r : Addr} {Q : Bool -> Shared -> Prop} (hT : s.TypeIs (.ref r) "set") (h : Q false s) : wpAny (model prog w) A (Builtin.List.listLengthHint (.ref r)) Q E s := by
 unfold Builtin.List.listLengthHint
 refine wpAny_bind (wpAny_specialOf hT PySem.F.slot_set_len.lookup ?_)
 generalize hid : ("set.__len__" : String) = id0
 wp_delta
 erw [show splitId id0 = some ("set", "__len__") from by subst hid; decide +kernel]
 subst hid
 refine wpAny_bind (wpAny_isInstance (T := "set") (b := true) hT (by erw [isSubtype_type]; kernel_rfl) ?_)
 refine wpAny_ite_split (fun hab => absurd hab (by decide)) (fun ζ => ?_)
 refine wpAny_ite_split (fun ζ => ?_) (fun hab => absurd (by decide +kernel) hab)
 refine wpAny_bind (wpAny_typeOf hT ?_)
 exact wpAny_pure h
end
end Mine
end
section
open PySem PyProof.Rows PySem.SeqAt
namespace Mine
section
variable {W : World0} {k : Nat} {A : Around} {s s' s'' : Shared} {F : Addr -> Prop} {sc : Scope}
variable {gl : Str -> Option Value} {X : Cx} {names : List Str} {ρ ρ' : List (Option V)} {σ σ' σ'' : List O} {Λ Λ' : Addr -> Prop} {ad ad' : List Addr}
end
end Mine
end
section
open PySem PyProof.Rows
namespace Mine
section
variable {W : World0} {k : Nat}
theorem a8j (hf : HasF W "_law_many" a9m) {s w : Nat} {t : List Nat} (R : OkR s w t) : Spec W (k + 1) "_law_many" [.d (a0m s w t)] (.int ((s ^ (w - 1) : Nat) : Int)) := by
 refine Spec.intro hf rfl (TS.retV (tape := [.int ((s ^ (w - 1) : Nat) : Int)]) rfl ⟨?_, .inr (lt64 R.s1000), .inr (lt64 R.s1000), .inr (lt64 R.s1000), trivial⟩ rfl)
 erw [b1b R.w1]
 refine a0p (b := true) rfl (by decide : 4 <= 16777216) ?_
 rcases (by decide : ∀ w, w < 5 -> 1 <= w -> (w = 1 ∨ w = 2 ∨ w = 3 ∨ w = 4)) w (Nat.lt_succ_of_le R.w4) R.w1 with rfl | rfl | rfl | rfl
 ·rfl
 ·show some (D.int (s : Int)) = some (.int ((s ^ 1 : Nat) : Int)); erw [Nat.pow_one]
 ·show some (D.int ((s : Int) * s)) = some (.int ((s ^ 2 : Nat) : Int)); erw [Nat.pow_two]; rfl
 ·show some (D.int ((s : Int) * s * s)) = some (.int ((s ^ 3 : Nat) : Int)); erw [Nat.pow_succ, Nat.pow_two]; rfl
end
end Mine
end
section
open PySem PyProof.Rows
namespace Mine
theorem b7h {α : Type} (a y : α) (Z : List α) : (a :: (Z ++ [y]))[Z.length + 1]? = some y := by
 erw [List.getElem?_cons_succ, List.getElem?_append_right (Nat.le_refl _), Nat.sub_self]; rfl
theorem b3n {α : Type} (a y z : α) (Z : List α) : (a :: (Z ++ [y])).set (Z.length + 1) z = a :: (Z ++ [z]) := by
 erw [List.set_cons_succ, b6z]
section
variable {W : World0} {k : Nat}
end
end Mine
end
section
open PySem PyProof.Rows PySem.SeqAt
namespace Mine
section
variable {W : World0} {k : Nat} {A : Around} {s : Shared} {F : Addr -> Prop} {gl : Str -> Option Value} {σ : List O} {ρ : List (Option V)}
end
end Mine
end
section
open PySem PyProof.Rows PySem.SeqAt
namespace Mine
section
variable {W : World0} {k : Nat} {A : Around} {s : Shared} {F : Addr -> Prop} {σ : List O} {ρ : List (Option V)} {tape : List D} {cs : List Prop}
end
end Mine
end
section
open PySem PyProof.Rows
namespace Mine
section
variable {W : World0} {k : Nat} {σ : List O} {ρ : List (Option V)}
end
end Mine
end
section
open PySem PyProof.Rows PySem.SeqAt
namespace Mine
section
variable {W : World0} {k : Nat} {A : Around} {s : Shared} {F : Addr -> Prop} {E : Value -> Shared -> Prop}
noncomputable def a1m {α : Type} (l : List α) (lo hi : Option Int) : List α :=
 (List.range (Builtin.Slice.slicePlaces (Builtin.Slice.sliceAdjust lo hi 1 l.length).1 (Builtin.Slice.sliceAdjust lo hi 1 l.length).2 1)).filterMap fun (k : Nat) => l[((Builtin.Slice.sliceAdjust lo hi 1 l.length).1 + (k : Int) * 1).toNat]?
theorem a6u {v : Value} {o : Option Int} (p : IsPart v o) {Q : Option Int -> Shared -> Prop} (h : Q o s) : wpAny (model W.p W.w) A (Builtin.Slice.slicePartIndex v) Q E s := by
 cases p with
 | none => exact slicePart_none h
 | int i t => exact slicePart_int h
theorem a8k {sl : Addr} {vl vu : Value} {lo hi : Option Int} {n : Nat} {Q : Int × Int × Nat -> Shared -> Prop} (hs : s.heap.IsSliceOf sl vl vu .none) (pl : IsPart vl lo) (pu : IsPart vu hi)
  (h : Q ((Builtin.Slice.sliceAdjust lo hi 1 n).1, 1, Builtin.Slice.slicePlaces (Builtin.Slice.sliceAdjust lo hi 1 n).1 (Builtin.Slice.sliceAdjust lo hi 1 n).2 1) s) :
  wpAny (model W.p W.w) A (Builtin.Slice.sliceApplied (.ref sl) (pure (n : Int))) Q E s := by
 obtain ⟨os, hos, hcs, hds⟩ := id hs
 unfold Builtin.Slice.sliceApplied Builtin.Slice.sliceFields
 refine wpAny_bind (wpAny_bind (wpAny_field hos hds (x := vl) rfl (wpAny_bind (wpAny_field hos hds (x := vu) rfl (wpAny_bind (wpAny_field hos hds (x := .none) rfl (wpAny_pure ?_)))))))
 refine wpAny_bind (slicePart_none ?_)
 show wpAny _ _ (if ((1 : Int) == 0) = true then _ else _) _ _ s
 rw [if_neg (by decide)]
 refine wpAny_bind (a6u pl (wpAny_bind (a6u pu (wpAny_bind (wpAny_pure ?_)))))
 exact wpAny_pure h
theorem DRels.tslice {gl : Str -> Option Value} {h : Heap} {vs : List Value} {l : List D} (r : DRels gl h F vs l) (lo hi : Option Int) : DRels gl h F (a1m vs lo hi) (a1m l lo hi) := by
 unfold a1m
 erw [r.length]
 have e : ∀ {α : Type} (l' : List α) (a : Int) (n : Nat), (List.range n).filterMap (fun (k : Nat) => l'[(a + (k : Int) * 1).toNat]?) = ((List.range n).map fun (k : Nat) => (a + (k : Int) * 1).toNat).filterMap (l'[·]?) := fun l' a n => by erw [List.filterMap_map]; rfl
 erw [e, e]
 exact r.pick _
theorem b0a {α : Type} : ∀ l : List α, (List.range l.length).filterMap (fun k => l[k]?) = l
 | [] => rfl
 | a :: l => by
  erw [List.length_cons, List.range_succ_eq_map, List.filterMap_cons, List.filterMap_map]
  show a :: (List.range l.length).filterMap (fun k => l[k]?) = _
  erw [b0a l]
theorem b3o {α : Type} (l : List α) : (List.range l.length).filterMap (fun (k : Nat) => l[((0 : Int) + (k : Int) * 1).toNat]?) = l := by
 have e : (fun (k : Nat) => l[((0 : Int) + (k : Int) * 1).toNat]?) = fun k => l[k]? := by
  funext k
  have : ((0 : Int) + (k : Int) * 1).toNat = k := by exact om38
  erw [this]
 erw [e]
 exact b0a l
theorem a6j {a sl : Addr} {vs : List Value} {n : Nat} {l : List D} {vl vu : Value} {lo hi : Option Int} (h1 : s.heap.get? a = some (TO vs n)) (r : DRels W.gl s.heap F vs l) (hz : (a1m l lo hi).length <= 16777216)
  (hs : s.heap.IsSliceOf sl vl vu .none) (pl : IsPart vl lo) (pu : IsPart vu hi) : Gives W A (getItem (.ref a) (.ref sl)) s F (.tup (a1m l lo hi)) := by
 intro L hL Q E q
 have rr := r.tslice lo hi
 have ht : IsTup s.heap a vs.toArray := ⟨_, h1, rfl, n, rfl⟩
 have hzz : sizeOk (.seq (a1m vs lo hi).toArray) := by
  show (a1m vs lo hi).toArray.size <= sizeLine
  erw [List.size_toArray, rr.length]; exact hz
 obtain ⟨os, hos, hcs, hds⟩ := id hs
 have hTs : s.TypeIs (.ref sl) "slice" := ⟨os, hos, hcs⟩
 unfold getItem
 try with_reducible refine wpAny_holding ?_
 first | refine wpAny_bind (wpAny_pure ?_) | skip
 refine wpAny_bind (wpAny_sequenceKey ht.typeIs (by decide) ?_)
 refine wpAny_bind (wpAny_callSpecial?_slot (name := Str.ofString "__getitem__") ht.typeIs slot_tuple_getitem
  (wpAny_call_entry slot_tuple_getitem ht.typeIs entry_tuple_getitem ?_ (args_tuple_getitem _ _)))
 show wpAny _ _ (Builtin.Tuple.tupleItemsOf (.ref a) >>= _) _ _ s
 refine wpAny_bind (tupleItemsOf_ ht ?_)
 refine wpAny_bind (wpAny_typeOf hTs ?_)
 rw [if_pos (by decide)]
 refine wpAny_bind (a8k hs pl pu ?_)
 by_cases hc : ((Builtin.Slice.sliceAdjust lo hi 1 (vs.toArray.size : Int)).1 == 0 && (1 : Int) == 1 && Builtin.Slice.slicePlaces (Builtin.Slice.sliceAdjust lo hi 1 (vs.toArray.size : Int)).1 (Builtin.Slice.sliceAdjust lo hi 1 (vs.toArray.size : Int)).2 1 == vs.toArray.size) = true
 ·show wpAny _ _ (if _ then _ else _) _ _ s
  erw [if_pos hc]
  refine wpAny_bind (wpAny_bind (wpAny_typeOf ht.typeIs (wpAny_pure ?_)))
  rw [if_pos (by decide)]
  refine wpAny_bind (wpAny_rule ?_)
  refine wpAny_pure ⟨_, rfl, wpAny_pure (q _ _ .refl ?_)⟩
  simp only [Bool.and_eq_true, beq_iff_eq, List.size_toArray] at hc
  have e : a1m l lo hi = l := by
   unfold a1m
   erw [← r.length, hc.2, hc.1.1, r.length]
   exact b3o l
  erw [e]
  exact .tup h1 r
 ·show wpAny _ _ (if _ then _ else _) _ _ s
  erw [if_neg hc]
  have e : (List.filterMap (fun (k : Nat) => vs.toArray[((Builtin.Slice.sliceAdjust lo hi 1 (vs.toArray.size : Int)).1 + (k : Int) * 1).toNat]?) (List.range (Builtin.Slice.slicePlaces (Builtin.Slice.sliceAdjust lo hi 1 (vs.toArray.size : Int)).1 (Builtin.Slice.sliceAdjust lo hi 1 (vs.toArray.size : Int)).2 1))) = a1m vs lo hi := by
   unfold a1m
   simp only [List.size_toArray, List.getElem?_toArray]
  erw [e]
  refine wpAny_bind (m := Builtin.Tuple.tupleExact _) (wpAny_newObj_type (wpAny_pure ⟨_, rfl, wpAny_pure (q _ _ (a1p (t := s.toks)) ?_)⟩) hzz)
  exact .tup (vs := a1m vs lo hi) (n := 0) (Heap.get?_push_size _ rfl) rr.push
end
end Mine
end
section
open PySem PyProof.Rows PySem.SeqAt
namespace Mine
section
variable {W : World0} {k : Nat} {ρ : List (Option V)} {σ : List O} {Q : Out -> List (Option V) -> List O -> Prop} {ss : List CS}
theorem b7i : ∀ ds : List D, dsOf (ds.map V.d) = some ds
 | [] => rfl
 | x :: ds => by show bO (dsOf (ds.map V.d)) _ = _; erw [b7i ds]; rfl
noncomputable def TEqs (W : World0) (k : Nat) (es : List CE) (ρ : List (Option V)) (σ : List O) (ds : List D) : Prop := TEsv W k es ρ σ (ds.map V.d)
theorem TEq.lstE {es : List CE} {ds : List D} (ts : TEqs W k es ρ σ ds) (hl : Nat.ble ds.length 100 = true) : TEq W k (.lst es) ρ σ (.lst ds) := TE.lst (TEsv.to ts ⟨ds, a8f (b7i ds), c9s hl, rfl, rfl⟩)
theorem TEo.none' {Q : Option Int -> List O -> Prop} (q : Q none σ) : TEo W k none ρ σ Q := q
theorem TEo.some' {e : CE} {i : Int} {Q : Option Int -> List O -> Prop} (t : TEq W k e ρ σ (.int i)) (q : Q (some i) σ) : TEo W k (some e) ρ σ Q := t.to ⟨i, rfl, q⟩
theorem TE.sliceT {a : CE} {lo hi : Option CE} {Q : V -> List O -> Prop} (t : TE W k a ρ σ fun va σ1 => TEo W k lo ρ σ1 fun l σ2 => TEo W k hi ρ σ2 fun u σ3 => ∃ xs, Mine.tupV va = some xs /\ (a1m xs l u).length <= 16777216 /\ Q (.d (.tup (a1m xs l u))) σ3) : TE W k (.slice a lo hi) ρ σ Q :=
 fun names sc E he X hk hr hw Λ ad s S => by
  replace he := b2n he; obtain ⟨v, l, u, pos', pos, rfl, he⟩ := he
  ·skip
   simp only [Bool.and_eq_true] at he
   refine Subscript_ (wpAny_mono (t names sc v he.1.1 X hk hr hw Λ ad s S) (fun o s₁ h₁ => ?_) fun ζ ζ f => f)
   obtain ⟨va, σ1, Λ1, ad1, S1, P1, r₁, t₁⟩ := h₁
   refine wpAny_Slice (wpAny_mono (t₁.run he.1.2 hk hr hw S1) (fun vl s₂ h₂ => ?_) fun ζ ζ f => f)
   refine b5x h₂ fun i σ2 Λ2 ad2 S2 P2 pl t₂ => ?_
   refine wpAny_mono (t₂.run he.2 hk hr hw S2) (fun vu s₃ h₃ => ?_) fun ζ ζ f => f
   refine a7p h₃ fun j σ3 Λ3 ad3 S3 P3 pu xs e hz q => ?_
   refine wpAny_pure ?_
   have r3 := ((r₁.step S1 P2).step S2 P3)
   obtain ⟨b, vs, n, rfl, h1, h2⟩ := b4w S3 r3 e
   have kk : Kept X.env.locals s₃ { s₃ with heap := s₃.heap.push { cls := .type "slice", data := .fields #[vl, vu, .none] } } := a1p (t := s₃.toks)
   have h1' := Heap.get?_push_of_some { cls := .type "slice", data := .fields #[vl, vu, .none] } h1
   have S4 := S3.kept kk
   have ht : IsTup (s₃.heap.push { cls := .type "slice", data := .fields #[vl, vu, .none] }) b vs.toArray := ⟨_, h1', rfl, n, rfl⟩
   have g := a6j (W := W) (A := X.A) (F := Un Λ3 X.Φ) (s := { s₃ with heap := s₃.heap.push { cls := .type "slice", data := .fields #[vl, vu, .none] } }) h1' (DRels.push h2) hz (.new _ vl vu .none) pl pu
   exact wpAny_mono (tail_any (s := { s₃ with heap := s₃.heap.push { cls := .type "slice", data := .fields #[vl, vu, .none] } }) ht.typeIs slot_tuple_getitem.lookup (g.post S4 q) rfl) (fun v s5 p => (((p.trans (.of_kept S3 kk)).trans P3).trans P2).trans P1) fun ζ ζ f => f
end
end Mine
end
section
open PySem PyProof.Rows PySem.SeqAt
namespace Mine
theorem ts_run {α : Type} (l : List α) (a n : Nat) : (List.range n).filterMap (fun (k : Nat) => l[((a : Int) + (k : Int) * 1).toNat]?) = (l.drop a).take n := by
 have e : (fun (k : Nat) => l[((a : Int) + (k : Int) * 1).toNat]?) = fun k => l[a + k]? := by
  funext k
  have : ((a : Int) + (k : Int) * 1).toNat = a + k := by exact om39
  erw [this]
 erw [e]
 have h := pick_run l.toArray a n
 rw [List.filterMap_map] at h
 have e2 : ((fun x => l.toArray[x]?) ∘ fun x => a + x) = fun k => l[a + k]? := by funext k; simp
 rw [e2] at h
 exact h
theorem c1z {α : Type} {l : List α} {b : Nat} (hb : b <= l.length) : a1m l none (some (b : Int)) = l.take b := by
 have e : Builtin.Slice.sliceAdjust none (some (b : Int)) 1 (l.length : Int) = (((0 : Nat) : Int), (b : Int)) := by
  unfold Builtin.Slice.sliceAdjust
  simp only [show ¬ ((1 : Int) < 0) by decide, show ¬ ((b : Int) < 0) by exact om20, if_false]
  congr 1; exact om40 hb
 have p : Builtin.Slice.slicePlaces (((0 : Nat) : Int)) (b : Int) 1 = b := by
  unfold Builtin.Slice.slicePlaces
  simp only [show (1 : Int) > 0 by decide, if_true, Int.ediv_one]
  split <;> omega
 unfold a1m
 erw [e]
 dsimp only
 erw [p, ts_run, List.drop_zero]
section
variable {W : World0} {k : Nat} {ρ : List (Option V)} {σ : List O} {Q : Out -> List (Option V) -> List O -> Prop} {ss : List CS}
theorem TS.asgE {i : Nat} {e : CE} {x : D} (t : TEq W k e ρ σ x) (h : TS W k ss (ρ.set i (some (.d x))) σ Q) (hn : a2u e = true := by rfl) : TS W k (.asg i e :: ss) ρ σ Q :=
 TS.cons (TS1.asg (t.to h) hn)
theorem TEq.slTo {a e : CE} {l : List D} {b : Nat} (ta : TEq W k a ρ σ (.tup l)) (te : TEq W k e ρ σ (.int (b : Int))) (hb : b <= l.length) (hl : l.length <= 16777216) : TEq W k (.slice a none (some e)) ρ σ (.tup (l.take b)) :=
 TE.sliceT (ta.to (TEo.none' (TEo.some' te ⟨l, rfl, by erw [c1z hb, List.length_take]; exact Nat.le_trans (Nat.min_le_right _ _) hl, by erw [c1z hb], rfl⟩)))
end
end Mine
end
section
open PySem PyProof.Rows PySem.SeqAt
namespace Mine
noncomputable def digs (s : Nat) : Nat -> Nat -> List Nat
 | 0, _ => []
 | j + 1, n => (n / s ^ j % s) :: digs s j n
noncomputable def a1f (s : Nat) (l : List Nat) : Nat := l.foldl (fun a x => a * s + x) 0
theorem a5t (s : Nat) : ∀ j n, (digs s j n).length = j
 | 0, _ => rfl
 | j + 1, n => congrArg Nat.succ (a5t s j n)
theorem b7j {s : Nat} : ∀ (j n a : Nat), (digs s j n).foldl (fun a x => a * s + x) a = a * s ^ j + n % s ^ j
 | 0, n, a => by erw [Nat.pow_zero, Nat.mod_one, Nat.mul_one]; rfl
 | j + 1, n, a => by
  show (digs s j n).foldl (fun a x => a * s + x) (a * s + n / s ^ j % s) = _
  erw [b7j j n, Nat.pow_succ, Nat.mod_mul, Nat.add_mul, Nat.mul_assoc, Nat.mul_comm s (s ^ j), Nat.add_assoc, Nat.mul_comm (n / s ^ j % s) (s ^ j), Nat.add_comm (s ^ j * _) (n % s ^ j)]
theorem b8r {s j n : Nat} (h : n < s ^ j) : a1f s (digs s j n) = n := by
 unfold a1f
 erw [b7j, Nat.zero_mul, Nat.zero_add, Nat.mod_eq_of_lt h]
theorem b8s {s : Nat} {l : List Nat} {j x : Nat} (h : l[j]? = some x) : a1f s (l.take (j + 1)) = a1f s (l.take j) * s + x := by
 unfold a1f
 erw [List.take_add_one, h, List.foldl_append]; rfl
theorem fdivQ (a b : Nat) : (a : Int).fdiv b = ((a / b : Nat) : Int) := Int.ofNat_fdiv a b ▸ rfl
section
variable {W : World0} {k : Nat} {ρ : List (Option V)} {σ : List O} {Q : Out -> List (Option V) -> List O -> Prop} {ss : List CS}
theorem TS.insV {i j : Nat} {e : CE} {x : D} {l : List D} {tape : List D} {cs : List Prop} (hx : ρ[i]? = some (some (.r j))) (hl : σ[j]? = some (.lst l)) (hz : l.length <= 16777216) (h : pv W k σ ρ e [] tape = some (.d x, cs, [])) (hc : AllP cs) (t : TS W k ss ρ (σ.set j (.lst (x :: l))) Q) : TS W k (.ex (.meth (.var i) "insert" [.int 0, e]) :: ss) ρ σ Q :=
 TS.cons (TS1.ex (TE.insert hx ⟨l, hl⟩ (TE.int ⟨rfl, TE.ev h hc ⟨x, l, rfl, hl, hz, t⟩⟩)))
theorem c2a {s : Nat} (h0 : 0 < s) (hs : s <= 1000) : (s : Int) ≠ 0 /\ (s : Int).natAbs < 1073741824 := ⟨a2b h0, by erw [Int.natAbs_natCast]; exact Nat.lt_of_le_of_lt hs (by decide)⟩
theorem a9g (h : HasF W "number_of" F_number_of) {s : Nat} (hs : s <= 1000) {v : V} {c : Bool} {l : List Nat} (hv : seqV [] v = some (c, (a0a l).map V.d)) (hn : notLive v = true) (hl : l.length <= 1000) : Spec W (k + 1) "number_of" [.d (.int s), v] (.int (a1f s l)) :=
 Spec.intro h rfl (TS.asgV (tape := []) (cs := []) rfl trivial (TS.forS (tape := []) (cs := []) rfl trivial hv hn (by erw [List.length_map, a0e]; exact a1r hl)
  (fun n ρ σ => ∃ x, ρ = [some (.d (.int s)), some v, some (.d (.int (a1f s (l.take n)))), x] /\ σ = []) ⟨none, rfl, rfl⟩
  (fun j x _ _ hx ⟨y, h1, h2⟩ => by
   subst h1 h2
   rw [List.getElem?_map] at hx
   obtain ⟨z, hz, rfl⟩ := Option.map_eq_some_iff.mp hx
   unfold a0a at hz
   rw [List.getElem?_map] at hz
   obtain ⟨a, ha, rfl⟩ := Option.map_eq_some_iff.mp hz
   refine TS.asgV (tape := []) rfl ⟨.inr (lt64 hs), trivial⟩ (TS.nil ⟨some (.d (.int a)), ?_, rfl⟩)
   erw [b8s ha]
   rfl)
  (fun _ _ ⟨x, h1, h2⟩ => by
   subst h1 h2
   refine TS.retV (tape := []) (cs := []) rfl trivial ?_
   erw [List.length_map, a0e, List.take_length]; rfl)))
theorem b1m {f : String} (hW : WOk W) (h : HasF W f F_cells_of) {s w n : Nat} (h0 : 0 < s) (hs : s <= 1000) (hw : w <= 1000) : Spec W (k + 1) f [.d (.int s), .d (.int w), .d (.int n)] (.lst (a0a (digs s w n))) :=
 Spec.intro h rfl (TS.asgL (tape := []) (cs := []) (l := []) rfl trivial rfl (by decide) (TS.forR hW (tape := []) (cs := []) rfl trivial (a1r hw)
  (fun j ρ σ => ∃ x, ρ = [some (.d (.int s)), some (.d (.int w)), some (.d (.int ((n / s ^ j : Nat) : Int))), some (.r 0), x] /\ σ = [.lst (a0a (digs s j n))]) ⟨none, by erw [Nat.pow_zero, Nat.div_one]; rfl, rfl⟩
  (fun j _ _ hj ⟨y, h1, h2⟩ => by
   subst h1 h2
   refine TS.insV (tape := []) rfl rfl (by erw [a0e, a5t]; exact a1r (Nat.le_trans (Nat.le_of_lt hj) hw)) rfl ⟨a2b h0, trivial⟩ (TS.asgV (tape := []) rfl ⟨c2a h0 hs, trivial⟩ (TS.nil ⟨some (.d (.int j)), ?_, ?_⟩))
   ·erw [fdivQ, Nat.div_div_eq_div_mul, ← Nat.pow_succ]; rfl
   ·erw [a2p]; rfl)
  (fun _ _ ⟨x, h1, h2⟩ => by
   subst h1 h2
   exact TS.retV (tape := []) (cs := []) rfl trivial rfl)))
end
end Mine
end
section
open PySem PyProof.Rows
namespace Mine
noncomputable def onL (s w : Nat) (t l : List Nat) : List Nat := (List.range (l.length + 1 - w)).map fun j => t.getD (a1f s ((l.drop j).take w)) 0
theorem a6k {s : Nat} : ∀ (l : List Nat) (a : Nat), l.foldl (fun a x => a * s + x) a = a * s ^ l.length + a1f s l
 | [], a => by unfold a1f; erw [List.length_nil, Nat.pow_zero, Nat.mul_one]; rfl
 | x :: l, a => by
  have h1 := a6k (s := s) l (a * s + x)
  have h2 := a6k (s := s) l (0 * s + x)
  have e : a1f s (x :: l) = l.foldl (fun a x => a * s + x) (0 * s + x) := rfl
  erw [e, h2, List.foldl_cons, h1, List.length_cons, Nat.pow_succ, Nat.zero_mul, Nat.zero_add, Nat.add_mul, Nat.mul_assoc, Nat.mul_comm s (s ^ l.length), Nat.add_assoc]
theorem a6l {s x : Nat} {l : List Nat} : a1f s (x :: l) = x * s ^ l.length + a1f s l := by
 have e : a1f s (x :: l) = l.foldl (fun a x => a * s + x) (0 * s + x) := rfl
 erw [e, a6k, Nat.zero_mul, Nat.zero_add]
theorem a7j {s : Nat} : ∀ {l : List Nat}, (∀ x ∈ l, x < s) -> a1f s l < s ^ l.length
 | [], _ => by show 0 < s ^ 0; erw [Nat.pow_zero]; decide
 | x :: l, h => by
  erw [a6l, List.length_cons, Nat.pow_succ]
  have h1 := a7j (l := l) fun y hy => h y (.tail _ hy)
  have h2 : (x + 1) * s ^ l.length <= s * s ^ l.length := Nat.mul_le_mul_right _ (h x (.head _))
  rw [Nat.add_mul, Nat.one_mul] at h2
  erw [Nat.mul_comm (s ^ l.length) s]
  exact om41 h2 h1
theorem b7k {s : Nat} (hs : 0 < s) : ∀ (j n a : Nat), digs s j (n + a * s ^ j) = digs s j n
 | 0, _, _ => rfl
 | j + 1, n, a => by
  have hp : 0 < s ^ j := Nat.pow_pos hs
  have e : n + a * s ^ (j + 1) = n + (a * s) * s ^ j := by erw [Nat.pow_succ, Nat.mul_assoc, Nat.mul_comm s (s ^ j)]
  show ((n + a * s ^ (j + 1)) / s ^ j % s) :: digs s j (n + a * s ^ (j + 1)) = _
  erw [e, b7k hs j n (a * s), Nat.add_mul_div_right _ _ hp, Nat.add_mul_mod_self_right]
  rfl
theorem b1n {s : Nat} (hs : 0 < s) : ∀ {l : List Nat}, (∀ x ∈ l, x < s) -> digs s l.length (a1f s l) = l
 | [], _ => rfl
 | x :: l, h => by
  have hp : 0 < s ^ l.length := Nat.pow_pos hs
  have h1 := a7j (l := l) fun y hy => h y (.tail _ hy)
  have ih := b1n hs (l := l) fun y hy => h y (.tail _ hy)
  erw [a6l, List.length_cons]
  show ((x * s ^ l.length + a1f s l) / s ^ l.length % s) :: digs s l.length (x * s ^ l.length + a1f s l) = x :: l
  erw [Nat.add_comm, b7k hs, ih, Nat.add_mul_div_right _ _ hp, Nat.div_eq_of_lt h1, Nat.zero_add, Nat.mod_eq_of_lt (h x (.head _))]
theorem c2b {s : Nat} (hs : 0 < s) : ∀ (j n : Nat), ∀ x ∈ digs s j n, x < s
 | 0, _, _, h => absurd h List.not_mem_nil
 | j + 1, n, x, h => by
  cases h with
  | head => exact Nat.mod_lt _ hs
  | tail _ h => exact c2b hs j n x h
theorem d0b {s w : Nat} {t l : List Nat} (R : OkR s w t) (hl : l.length = w) (h : ∀ x ∈ l, x < s) : t[a1f s l]? = some (t.getD (a1f s l) 0) /\ t.getD (a1f s l) 0 < s := by
 have h1 : a1f s l < t.length := by erw [R.len, ← hl]; exact a7j h
 erw [List.getD_eq_getElem?_getD, List.getElem?_eq_getElem h1]
 exact ⟨rfl, R.sign _ (List.getElem_mem _)⟩
theorem d0c {l : List Nat} {w j : Nat} (hj : j < l.length + 1 - w) : ((l.drop j).take w).length = w := by
 erw [List.length_take, List.length_drop]; exact om42 hj
theorem cut_lt {s : Nat} {l : List Nat} {w j : Nat} (h : ∀ x ∈ l, x < s) : ∀ x ∈ (l.drop j).take w, x < s := fun x hx => h x (List.mem_of_mem_drop (List.mem_of_mem_take hx))
end Mine
end
section
open PySem PyProof.Rows PySem.SeqAt
namespace Mine
inductive ArgLes : List V -> List V -> Prop
 | nil : ArgLes [] []
 | same {v : V} {l l' : List V} : ArgLes l l' -> ArgLes (v :: l) (v :: l')
 | own {x : D} {l l' : List V} : ArgLes l l' -> ArgLes (.a x :: l) (.d x :: l')
theorem ArgLes.rel {gl : Str -> Option Value} {h : Heap} {Φ : Addr -> Prop} {l l' : List V} (a : ArgLes l l') : ∀ {vs : List Value}, VRels gl h noL Φ [] vs l' -> VRels gl h noL Φ [] vs l := by
 induction a with
 | nil => exact fun r => r
 | same _ ih => intro vs r; cases r with | cons r1 r2 => exact .cons r1 (ih r2)
 | own _ ih => intro vs r; cases r with | cons r1 r2 => exact .cons (.a (r1.dInv.keep (.weak fun ζ h => .inl h))) (ih r2)
theorem c2c {l : List Nat} {j w : Nat} : ((a0a l).drop j).take w = a0a ((l.drop j).take w) := by unfold a0a; erw [List.map_take, List.map_drop]
theorem b8t {α : Type} (f : α -> Nat) (l : List α) : a0a (l.map f) = l.map fun x => D.int ((f x : Nat) : Int) := by unfold a0a; erw [List.map_map]; rfl
theorem b7l {σ : List O} (l : List Nat) : seqV σ (.a (.lst (a0a l))) = some (true, (a0a l).map V.d) := by erw [← a9x]; rfl
theorem a5u {σ : List O} (l : List Nat) : lstV σ (.a (.lst (a0a l))) = some (a0a l) := if_pos (a2m l)
theorem a1a {l : List Nat} (h : l.length <= 1000) : (a0a l).length <= 16777216 := by erw [a0e]; exact a1r h
section
variable {W : World0} {k : Nat}
theorem Spec.own {f : String} {args args' : List V} {r : D} (s : Spec W k f args r) (h : ArgLes args args') : Spec W k f args' r := by
 obtain ⟨cf, hf, F⟩ := s
 exact ⟨cf, hf, fun A s vs Φ hr hw hΦ rel a ha => F A s vs Φ hr hw hΦ (h.rel rel) a ha⟩
variable {s w : Nat} {t l : List Nat}
theorem c6d {ρ : List (Option V)} {σ : List O} {i j2 : Nat} {e : CE} {j : Nat} {tape : List D} {cs : List Prop} (h1 : ρ[i]? = some (some (.a (.lst (a0a l))))) (h2 : ρ[j2]? = some (some (.d (.int (j : Int))))) (h3 : pv W k σ ρ e [] tape = some (.d (.int ((j + w : Nat) : Int)), cs, [])) (hc : AllP cs) (hl : l.length <= 1000) (hj : j < l.length + 1 - w) :
  TEq W k (.slice (.var i) (some (.var j2)) (some e)) ρ σ (.lst (a0a ((l.drop j).take w))) := by
 have e2 : ((a0a l).drop j).take (j + w - j) = a0a ((l.drop j).take w) := by erw [Nat.add_sub_cancel_left]; exact c2c
 erw [← e2]
 exact TE.slice (TE.var h1 (TE.var h2 ⟨_, rfl, TE.ev h3 hc ⟨_, rfl, a0a l, a5u l, a1a hl, by rw [a8h _ (Nat.le_add_right _ _) (by rw [a0e]; exact om43 hj)], rfl⟩⟩))
theorem d0d (hl : l.length <= 1000) {j : Nat} : ((l.drop j).take w).length <= 1000 := Nat.le_trans (by rw [List.length_take]; exact Nat.min_le_right _ _) (Nat.le_trans (by erw [List.length_drop]; exact Nat.sub_le _ _) hl)
end
end Mine
end
section
open PySem PyProof.Rows PySem.SeqAt
namespace Mine
section
variable {W : World0} {k : Nat}
structure HasB9 (W : World0) : Prop where
 R : HasR W
 number_of : HasF W "number_of" F_number_of
 is_piece : HasF W "is_piece" F_is_piece
 need_piece : HasF W "need_piece" F_need_piece
 sign_of : HasF W "sign_of" F_sign_of
 piece_on : HasF W "piece_on" F_piece_on
variable {s w : Nat} {t l : List Nat}
theorem b1o (H : HasB9 W) (R : OkR s w t) {x : Nat} (hl : l.length <= 1000) (hx : t[a1f s l]? = some x) : Spec W (k + 2) "sign_of" [.d (a0m s w t), .a (.lst (a0a l))] (.int x) :=
 Spec.intro H.sign_of rfl (TS.retV (tape := [.int (a1f s l), .int x]) rfl ⟨a0p (n := a1f s l) rfl R.len16 (a3n hx), a9g H.number_of R.s1000 (b7l l) rfl hl, trivial⟩ rfl)
theorem a9h (H : HasB9 W) (R : OkR s w t) (hl : l.length <= 1000) (hs : ∀ x ∈ l, x < s) : Spec W (k + 4) "is_piece" [.d (a0m s w t), .a (.lst (a0a l))] (.bool true) :=
 Spec.intro H.is_piece rfl (TS.exV (tape := [.none]) rfl ⟨a1y H.R R, trivial⟩ (TS.retV (tape := [.bool true, .bool true]) rfl ⟨b3e (k := k + 2) (cs := []) H.R rfl trivial (b7l l) rfl (a1a hl) (fun x hx => by
   obtain ⟨a, ha, rfl⟩ := List.mem_map.mp hx
   exact TEq.ev (tape := [.bool true]) rfl ⟨a2i H.R (Int.natCast_nonneg a) (c1n (hs a ha)), trivial⟩), TEq.isi H.R.ok rfl trivial rfl (.lst _), trivial⟩ rfl))
theorem a7d (H : HasB9 W) (R : OkR s w t) {m : Nat} (hl : l.length <= 1000) (hs : ∀ x ∈ l, x < s) (hm : m <= l.length) : Spec W (k + 5) "need_piece" [.d (a0m s w t), .a (.lst (a0a l)), .d (.int m)] .none :=
 Spec.intro H.need_piece rfl (TS.ifF (tape := [.bool true, .int ((a0a l).length : Int)]) rfl ⟨TEq.len H.R.ok (tape := []) (cs := []) rfl trivial rfl rfl (a1a hl), a9h H R hl hs, trivial⟩
  (show (!true || decide (((a0a l).length : Int) < (m : Int))) = false by erw [a0e, decide_eq_false (Int.not_lt.mpr (Int.ofNat_le.mpr hm))]; rfl) (TS.nil rfl))
theorem a4l (H : HasB9 W) (R : OkR s w t) (hl : l.length <= 1000) (hs : ∀ x ∈ l, x < s) (hw : w - 1 <= l.length) : Spec W (k + 6) "piece_on" [.d (a0m s w t), .a (.lst (a0a l))] (.lst (a0a (onL s w t l))) := by
 have e : ((a0a l).length : Int) - (w : Int) + 1 = ((l.length + 1 - w : Nat) : Int) := by erw [a0e]; have := R.w1; exact om44 hw
 refine Spec.intro H.piece_on rfl (TS.exV (tape := [.none]) rfl ⟨a1y H.R R, trivial⟩ (TS.exV (tape := [.none]) rfl ⟨b1b R.w1 ▸ a7d H R hl hs hw, trivial⟩ (TS.retV (tape := [.lst (a0a (onL s w t l))]) rfl ⟨?_, trivial⟩ rfl)))
 unfold onL
 erw [b8t]
 refine TEq.compR H.R.ok (tape := [.int ((a0a l).length : Int)]) (cs := [_]) _ (by rw [← e]; rfl) ⟨TEq.len H.R.ok (tape := []) (cs := []) rfl trivial rfl rfl (a1a hl), trivial⟩ (a1r (by have := R.w1; exact om45 this hl)) fun j hj => ?_
 exact TEq.ev (tape := [.lst (a0a ((l.drop j).take w)), .int _]) rfl ⟨(b1o H R (d0d hl) (d0b R (d0c hj) (cut_lt hs)).1).own (.same (.own .nil)), c6d rfl rfl (tape := []) (cs := []) rfl trivial hl hj, trivial⟩
end
end Mine
end
section
open PySem PyProof.Rows PySem.SeqAt
namespace Mine
theorem b8u {s N : Nat} {t word : List Nat} {a : Nat} : b1d s N t (word ++ [a]) = a1g s N t (b1d s N t word) a := by unfold b1d; erw [List.foldl_append]; rfl
end Mine
end
section
open PySem PyProof.Rows PySem.SeqAt
namespace Mine
section
variable {W : World0} {k : Nat} {ρ : List (Option V)} {σ : List O}
variable {s w : Nat} {t l : List Nat}
end
end Mine
end
section
open PySem PyProof.Rows PySem.SeqAt
namespace Mine
section
variable {s N : Nat} {t : List Nat}
theorem c6e {w y : Nat} {l : List Nat} (h : w <= l.length + 1) (hw : 1 <= w) : onL s w t (y :: l) = t.getD (a1f s ((y :: l).take w)) 0 :: onL s w t l := by
 unfold onL
 erw [List.length_cons, show l.length + 1 + 1 - w = (l.length + 1 - w) + 1 by exact om46 h, List.range_succ_eq_map, List.map_cons, List.map_map]
 rfl
theorem b0b {c : List Nat} {a : Nat} : a1f s (c ++ [a]) = a1f s c * s + a := by unfold a1f; erw [List.foldl_append]; rfl
end
end Mine
end
section
open PySem PyProof.Rows PySem.SeqAt
namespace Mine
section
variable {W : World0} {k : Nat} {ρ : List (Option V)} {σ : List O}
variable {s w : Nat} {t l : List Nat}
end
end Mine
end
section
open PySem PyProof.Rows PySem.SeqAt
namespace Mine
section
variable {W : World0} {k : Nat}
variable {s w : Nat} {t l : List Nat}
end
end Mine
end
section
open PySem PyProof.Rows PySem.SeqAt
namespace Mine
section
variable {W : World0} {k : Nat} {Q : Out -> List (Option V) -> List O -> Prop}
variable {s w : Nat} {t l : List Nat}
end
end Mine
end
section
open PySem PyProof.Rows PySem.SeqAt
namespace Mine
section
variable {W : World0} {k : Nat} {Q : Out -> List (Option V) -> List O -> Prop}
variable {s w : Nat} {t l : List Nat}
end
end Mine
end
section
open PySem PyProof.Rows PySem.SeqAt
namespace Mine
section
variable {s N : Nat} {t : List Nat}
theorem b3p {ends piece : List Nat} {fs : List (List Nat × List Nat)} : ∀ n, ∃ r, adds s N t ends piece fs n = fs ++ r /\ ∀ q ∈ r, q.2.length = piece.length + 1
 | 0 => ⟨[], (List.append_nil _).symm, fun ζ h => absurd h List.not_mem_nil⟩
 | n + 1 => by
  refine xEA (b3p (ends := ends) (piece := piece) (fs := fs) n) fun r h1 h2 => ?_
  unfold adds
  split
  ·exact ⟨r, h1, h2⟩
  ·refine ⟨r ++ [(a1g s N t ends n, piece ++ [n])], by erw [h1, List.append_assoc], fun q hq => ?_⟩
   rcases List.mem_append.mp hq with hq | hq
   ·exact h2 q hq
   ·erw [List.mem_singleton.mp hq]; show (piece ++ [n]).length = _; erw [List.length_append]; rfl
set_option tactic.hygienic true in
theorem b7m {ends piece : List Nat} {fs : List (List Nat × List Nat)} : ∀ {n a : Nat}, a < n -> ∃ q ∈ adds s N t ends piece fs n, q.1 = a1g s N t ends a
 | 0, a, h => absurd h (Nat.not_lt_zero _)
 | n + 1, a, h => by
  unfold adds
  rcases Nat.lt_succ_iff_lt_or_eq.mp h with h | rfl
  ·refine xEA (b7m (ends := ends) (piece := piece) (fs := fs) h) fun q hq e => ?_
   split
   ·exact ⟨q, hq, e⟩
   ·exact ⟨q, List.mem_append_left _ hq, e⟩
  ·split
   ·rename_i hm
    refine xEA (List.mem_map.mp hm) fun q hq e => ?_
    exact ⟨q, hq, e⟩
   ·exact ⟨_, List.mem_append_right _ (List.mem_singleton.mpr rfl), rfl⟩
structure BfsOk (s N : Nat) (t : List Nat) (fs : List (List Nat × List Nat)) (i : Nat) : Prop where
 one : fs[0]? = some (List.range N, [])
 srt : ∀ (a b : Nat) (pa pb : List Nat × List Nat), a <= b -> fs[a]? = some pa -> fs[b]? = some pb -> pa.2.length <= pb.2.length
 upp : ∀ p, fs[i]? = some p -> ∀ q ∈ fs, q.2.length <= p.2.length + 1
 cls : ∀ j p, j < i -> fs[j]? = some p -> ∀ a, a < s -> ∃ q ∈ fs, q.1 = a1g s N t p.1 a /\ q.2.length <= p.2.length + 1
theorem c2d (s N : Nat) (t : List Nat) : ∀ i, BfsOk s N t (gone s N t i) i
 | 0 => by
  have e : gone s N t 0 = [(List.range N, [])] := rfl
  erw [e]
  refine ⟨rfl, fun a b pa pb ζ h1 h2 => ?_, fun p h q hq => ?_, fun j p h => absurd h (Nat.not_lt_zero _)⟩
  ·erw [List.mem_singleton.mp (List.mem_of_getElem? h1)]; exact Nat.zero_le _
  ·erw [List.mem_singleton.mp hq]; exact Nat.zero_le _
 | i + 1 => by
  have ih := c2d s N t i
  cases hp : (gone s N t i)[i]? with
  | none =>
   have e : gone s N t (i + 1) = gone s N t i := by
    show (match (gone s N t i)[i]? with | none => gone s N t i | some p => adds s N t p.1 p.2 (gone s N t i) s) = _
    erw [hp]
   erw [e]
   have hlen := List.getElem?_eq_none_iff.mp hp
   refine ⟨ih.one, ih.srt, fun p h => ?_, fun j p hj hjp => ?_⟩
   ·rw [List.getElem?_eq_none (om24 hlen)] at h; exact dNS h
   ·rcases Nat.lt_succ_iff_lt_or_eq.mp hj with h | rfl
    ·exact ih.cls j p h hjp
    ·exact dGN hp hjp
  | some p =>
   have e : gone s N t (i + 1) = adds s N t p.1 p.2 (gone s N t i) s := by
    show (match (gone s N t i)[i]? with | none => gone s N t i | some p => adds s N t p.1 p.2 (gone s N t i) s) = _
    erw [hp]
   have hhas := fun a (ha : a < s) => b7m (s := s) (N := N) (t := t) (ends := p.1) (piece := p.2) (fs := gone s N t i) ha
   erw [e]
   refine xEA (b3p (s := s) (N := N) (t := t) (ends := p.1) (piece := p.2) (fs := gone s N t i) s) fun r h1 h2 => ?_
   rw [h1] at hhas ⊢
   generalize gone s N t i = fs at *
   have hi : i < fs.length := (List.getElem?_eq_some_iff.mp hp).1
   have up : ∀ q ∈ fs ++ r, q.2.length <= p.2.length + 1 := fun q hq => by
    rcases List.mem_append.mp hq with hq | hq
    ·exact ih.upp p hp q hq
    ·exact Nat.le_of_eq (h2 q hq)
   have hp' : (fs ++ r)[i]? = some p := by erw [List.getElem?_append_left hi]; exact hp
   have srt : ∀ (a b : Nat) (pa pb : List Nat × List Nat), a <= b -> (fs ++ r)[a]? = some pa -> (fs ++ r)[b]? = some pb -> pa.2.length <= pb.2.length := fun a b pa pb hab ha hb => by
    by_cases hb' : b < fs.length
    ·rw [List.getElem?_append_left hb'] at hb
     rw [List.getElem?_append_left (Nat.lt_of_le_of_lt hab hb')] at ha
     exact ih.srt a b pa pb hab ha hb
    ·rw [List.getElem?_append_right (Nat.le_of_not_lt hb')] at hb
     erw [h2 pb (List.mem_of_getElem? hb)]
     exact up pa (List.mem_of_getElem? ha)
   refine ⟨?_, srt, fun p' hp1 q hq => ?_, fun j pj hj hjp a ha => ?_⟩
   ·erw [List.getElem?_append_left (Nat.lt_of_le_of_lt (Nat.zero_le _) hi)]; exact ih.one
   ·exact Nat.le_trans (up q hq) (Nat.succ_le_succ (srt i (i + 1) p p' (Nat.le_succ _) hp' hp1))
   ·rcases Nat.lt_succ_iff_lt_or_eq.mp hj with h | rfl
    ·rw [List.getElem?_append_left (Nat.lt_trans h hi)] at hjp
     refine xEAA (ih.cls j pj h hjp a ha) fun q hq e1 e2 => ?_
     exact ⟨q, List.mem_append_left _ hq, e1, e2⟩
    ·rw [hp'] at hjp
     cases hjp
     refine xEA (hhas a ha) fun q hq e1 => ?_
     exact ⟨q, hq, e1, up q hq⟩
theorem c2e {M : Nat} (hM : (gone s N t M).length <= M) : ∀ (n : Nat) (z : List Nat), z.length = n -> (∀ x ∈ z, x < s) -> ∃ q ∈ gone s N t M, q.1 = b1d s N t z /\ q.2.length <= z.length
 | 0, z, h, _ => by
  erw [List.length_eq_zero_iff.mp h]
  exact ⟨_, List.mem_of_getElem? (c2d s N t M).one, rfl, Nat.le_refl _⟩
 | n + 1, z, h, hz => by
  rcases List.eq_nil_or_concat z with h' | ⟨v, x, h'⟩
  ·rw [h'] at h; cases h
  ·rw [List.concat_eq_append] at h'
   subst h'
   rw [List.length_append] at h
   refine xEAA (c2e hM n v (Nat.succ.inj h) fun y hy => hz y (List.mem_append_left _ hy)) fun q hq e1 e2 => ?_
   obtain ⟨j, hj, hjq⟩ := List.mem_iff_getElem.mp hq
   refine xEAA ((c2d s N t M).cls j q (Nat.lt_of_lt_of_le hj hM) (by erw [List.getElem?_eq_getElem hj, hjq]) x (hz x (List.mem_append_right _ (List.mem_singleton.mpr rfl)))) fun q' hq' e3 e4 => ?_
   refine ⟨q', hq', by erw [e3, e1, b8u], ?_⟩
   erw [List.length_append]
   exact Nat.le_trans e4 (Nat.succ_le_succ e2)
end
theorem c2f {s N : Nat} {t : List Nat} : a4t s N t = gone s N t 256 := by unfold a4t; rfl
end Mine
end
section
open PySem PyProof.Rows PySem.SeqAt
namespace Mine
section
variable {W : World0} {k : Nat} {ρ : List (Option V)} {σ : List O}
variable {s w : Nat} {t p : List Nat}
theorem b3q (l : List Nat) : a0q (.lst (a0a l)) = true := a1v l
theorem b7n (l : List Nat) : dep (.lst (a0a l)) <= 200 := by show deps (a0a l) + 1 <= 200; erw [a5p]; decide
end
end Mine
end
section
open PySem PyProof.Rows
namespace Mine
section
variable {s N w : Nat} {t : List Nat}
end
end Mine
end
section
open PySem PyProof.Rows
namespace Mine
section
variable {s N w : Nat} {t : List Nat}
end
end Mine
end
section
open PySem PyProof.Rows
namespace Mine
section
variable {s N w : Nat} {t : List Nat}
end
end Mine
end
section
open PySem PyProof.Rows
namespace Mine
section
variable {s N w : Nat} {t : List Nat}
end
end Mine
end
section
open PySem PyProof.Rows
namespace Mine
section
variable {s N w : Nat} {t : List Nat}
end
end Mine
end
section
open PySem PyProof.Rows PySem.SeqAt
namespace Mine
end Mine
end
section
open PySem PyProof.Rows PySem.SeqAt
namespace Mine
section
variable {prog : Program} {w : World} {A : Around} {R : Result -> Shared -> Prop} {I : Addr} {fp wr : List Addr} {n : Nat} {P : Nat -> Value -> Prop} {St : Nat -> Heap -> Prop}
end
section
variable {W : World0} {k : Nat} {A : Around} {s : Shared} {F : Addr -> Prop}
end
end Mine
end
section
open PySem PyProof.Rows PySem.SeqAt
namespace Mine
section
variable {W : World0} {k : Nat} {ρ : List (Option V)} {σ : List O} {s w : Nat} {t : List Nat}
end
end Mine
end
section
open PySem PyProof.Rows PySem.SeqAt
namespace Mine
section
variable {W : World0} {k : Nat} {ρ : List (Option V)} {σ : List O} {s w : Nat} {t : List Nat}
end
end Mine
end
section
open PySem PyProof.Rows PySem.SeqAt
namespace Mine
section
variable {W : World0} {k : Nat} {s w : Nat} {t l p : List Nat}
end
end Mine
end
section
open PySem PyProof.Rows PySem.SeqAt
namespace Mine
section
variable {W : World0} {k : Nat} {s w : Nat} {t l p : List Nat}
end
end Mine
end
section
open PySem PyProof.Rows PySem.SeqAt
namespace Mine
section
variable {W : World0} {k : Nat} {s w : Nat} {t l p : List Nat}
end
end Mine
end
section
open PySem PyProof.Rows PySem.SeqAt
namespace Mine
section
variable {W : World0} {k : Nat} {ρ : List (Option V)} {σ : List O} {Q : Out -> List (Option V) -> List O -> Prop} {ss : List CS}
theorem TE.listCopy (hW : WOk W) {e : CE} {Q : V -> List O -> Prop} (t : TE W k e ρ σ fun v σ' => ∃ l, lstV σ' v = some l /\ l.length <= 16777216 /\ Q (.r σ'.length) (σ' ++ [.lst l])) : TE W k (.prim "list" [e]) ρ σ Q := fun names sc E he X hk hr hw Λ ad s S => by
 replace he := a2h he; obtain ⟨_, _, _, _, rfl, he⟩ := he
 simp only [Bool.and_eq_true] at he
 refine a3e hW (f := "list") (by decide) (v := .type "list") (by decide +kernel) (by decide) (.inr ⟨_, rfl⟩) (es := [e]) (by simp) he.1.1 he.1.2 hk hr hw S (Q := fun vals σ' => ∃ v l, vals = [v] /\ lstV σ' v = some l /\ l.length <= 16777216 /\ Q (.r σ'.length) (σ' ++ [.lst l])) (t.mono fun v σ' h => ?_) fun vs s₁ vals σ1 Λ1 ad1 S1 P1 r₁ q => ?_
 ·refine xE h fun l h => ?_; exact ⟨v, l, rfl, h⟩
 ·obtain ⟨v, l, rfl, hl, hz, q⟩ := q
  obtain ⟨v', rfl, r⟩ := r₁.one
  obtain ⟨a, ws, n, rfl, h1, h2⟩ := a3a S1 r hl
  refine call_list_seq a (T := "list") (.inl rfl) h1 rfl rfl (fun h' c' hk hS => ?_) (by erw [List.size_toArray, h2.length]; exact hz)
  obtain ⟨S2, P2⟩ := S1.live (s' := { s₁ with heap := h' }) (.of_keeps hk rfl rfl) (a0o s₁.heap) (o := .lst l) (by intro h; cases h) (fun Λ' ad' K pre => ⟨ws, c', hS, Un.mono K h2⟩) ⟨_, hS⟩
  exact ⟨_, _, _, _, S2, P1.trans P2, .r (by erw [← S1.len]; simp), q⟩
theorem b0c {va vb : V} {a b : CE} {x : D} (ta : TEv W k a ρ σ va) (tb : TEv W k b ρ σ vb) (h1 : a0h σ va = some x) (h2 : a0h σ vb = some x) (hp : a0q x = true) (hd : dep x <= 200) : TCv W k (.cmp .NotEq a b) ρ σ false := by
 have h := TCv.cmp ta tb (.ne h1 h2 hp hp hd)
 rw [a5d x hp] at h
 exact h
theorem c2g {h : Nat} {l : List D} (e : σ[h]? = some (.lst l)) : a0h σ (.r h) = some (.lst l) := by
 show (match σ[h]? with | some (.lst l) => some (D.lst l) | some (.dI l) => some (.dI l) | some (.dT l) => some (.dT l) | _ => none) = _
 erw [e]
theorem b5l (s w : Nat) (t : List Nat) : nolist (a0m s w t) = true := by
 show (true && (true && (nolists (a0a t) && true))) = true
 erw [a2m]; rfl
variable {s w : Nat} {t l p : List Nat}
end
end Mine
end
section
namespace Mine
open PySem
structure Cut (xs : Array Nat) (j r : Nat) : Prop where
 le : r <= xs.size
 lo : ∀ i, i < r -> xs.getD i j < j
 hi : ∀ i, r <= i -> i < xs.size -> j <= xs.getD i j
noncomputable def a3p (xs : Array Nat) : Prop := xs.toList.Pairwise (· < ·)
theorem a8l {xs : Array Nat} (h : a3p xs) {a b j : Nat} (hab : a < b) (hb : b < xs.size) : xs.getD a j < xs.getD b j := by
 have h1 := List.pairwise_iff_getElem.mp h a b (by simpa using (Nat.lt_trans hab hb)) (by simpa using hb) hab
 simp only [Array.getElem_toList] at h1
 simp [Array.getD, hb, Nat.lt_trans hab hb]
 exact h1
theorem b1p {xs : Array Nat} (h : a3p xs) {j : Nat} : ∀ (fuel lo hi : Nat), hi - lo <= fuel -> lo <= hi -> hi <= xs.size -> (∀ i, i < lo -> xs.getD i j < j) -> (∀ i, hi <= i -> i < xs.size -> j <= xs.getD i j) -> Cut xs j (SetTable.below.go xs j fuel lo hi)
 | 0, lo, hi, h0, h1, h2, h3, h4 => by
  have : lo = hi := by exact om47 h1 h0
  subst this
  exact ⟨h2, h3, h4⟩
 | fuel + 1, lo, hi, h0, h1, h2, h3, h4 => by
  unfold SetTable.below.go
  by_cases hlt : lo < hi
  ·erw [if_pos hlt]
   dsimp only
   by_cases hm : xs.getD ((lo + hi) / 2) j < j
   ·erw [if_pos hm]
    refine b1p h fuel _ hi (om48 h0) (om49 hlt) h2 (fun i hi' => ?_) h4
    by_cases e : i = (lo + hi) / 2
    ·erw [e]; exact hm
    ·exact Nat.lt_trans (a8l h (a := i) (b := (lo + hi) / 2) (j := j) (om50 hi' e) (om51 hlt h2)) hm
   ·erw [if_neg hm]
    refine b1p h fuel lo _ (om52 h0) (om53 hlt) (om54 hlt h2) h3 (fun i hi' hi2 => ?_)
    by_cases e : i = (lo + hi) / 2
    ·erw [e]; exact om55 hm
    ·have := a8l h (a := (lo + hi) / 2) (b := i) (j := j) (om56 hi' e) hi2
     exact om57 this hm
  ·erw [if_neg hlt]
   have : lo = hi := by exact om58 h1 hlt
   subst this
   exact ⟨h2, h3, h4⟩
theorem a8m {xs : Array Nat} (h : a3p xs) (j : Nat) : Cut xs j (SetTable.below xs j) := b1p h xs.size 0 xs.size om59 (Nat.zero_le _) (Nat.le_refl _) (fun i hi => absurd hi (Nat.not_lt_zero _)) (fun i h1 h2 => by exact om60 h2 h1)
theorem Cut.unique {xs : Array Nat} {j r r' : Nat} (a : Cut xs j r) (b : Cut xs j r') : r = r' := by
 rcases Nat.lt_trichotomy r r' with h | h | h
 ·have := b.lo r h; have := a.hi r (Nat.le_refl _) (Nat.lt_of_lt_of_le h b.le); omega
 ·exact h
 ·have := a.lo r' h; have := b.hi r' (Nat.le_refl _) (Nat.lt_of_lt_of_le h a.le); omega
noncomputable def b8v (mask i : Nat) : Nat := (i * 5 + 1) % (mask + 1)
noncomputable def iter (f : Nat -> Nat) : Nat -> Nat -> Nat
 | 0, i => i
 | n + 1, i => iter f n (f i)
theorem a7k (f : Nat -> Nat) : ∀ (a b i : Nat), iter f (a + b) i = iter f b (iter f a i)
 | 0, b, i => by erw [Nat.zero_add]; rfl
 | a + 1, b, i => by erw [Nat.succ_add]; exact a7k f a b (f i)
noncomputable def orbL (f : Nat -> Nat) : Nat -> Nat -> List Nat
 | 0, _ => []
 | n + 1, i => i :: orbL f n (f i)
theorem b7o (f : Nat -> Nat) : ∀ {n i e : Nat}, e ∈ orbL f n i -> ∃ q, q < n /\ iter f q i = e
 | 0, i, e, h => by cases h
 | n + 1, i, e, h => by
  rcases List.mem_cons.mp h with rfl | h
  ·exact ⟨0, Nat.succ_pos _, rfl⟩
  ·refine xEA (b7o f h) fun q hq e1 => ?_
   exact ⟨q + 1, by exact om61 hq, e1⟩
noncomputable def a5v (mask : Nat) : Bool := (List.range (mask + 1)).all (fun e => (orbL (b8v mask) (mask + 1) 0).elem e) && Nat.beq (iter (b8v mask) (mask + 1) 0) 0
theorem orb7 : a5v 7 = true := by decide +kernel
theorem orb31 : a5v 31 = true := by decide +kernel
theorem c7s : a5v 127 = true := by decide +kernel
theorem d0e {mask : Nat} (h : a5v mask = true) {i e : Nat} (hi : i <= mask) (he : e <= mask) : ∃ q, q <= mask /\ iter (b8v mask) q i = e := by
 unfold a5v at h
 rw [Bool.and_eq_true, List.all_eq_true] at h
 have at0 : ∀ e, e <= mask -> ∃ q, q < mask + 1 /\ iter (b8v mask) q 0 = e := fun e he => b7o _ (List.elem_iff.mp (h.1 e (List.mem_range.mpr (om62 he))))
 refine xEA (at0 i hi) fun a ha ea => ?_
 refine xEA (at0 e he) fun b hb eb => ?_
 have hM := Nat.eq_of_beq_eq_true h.2
 by_cases hab : a <= b
 ·refine ⟨b - a, by exact om63 hb, ?_⟩
  erw [← ea, ← a7k, show a + (b - a) = b by exact om64 hab, eb]
 ·refine ⟨b + (mask + 1) - a, by exact om65 hab, ?_⟩
  erw [← ea, ← a7k, show a + (b + (mask + 1) - a) = (mask + 1) + b by exact om66 ha, a7k, hM, eb]
noncomputable def a3q (mask : Nat) : Nat -> Nat × Nat -> Nat × Nat
 | 0, x => x
 | n + 1, x => a3q mask n (SetTable.leap mask x.1 x.2)
theorem a8n {mask i p : Nat} : (SetTable.leap mask i p).1 <= mask := by
 unfold SetTable.leap
 exact Nat.le_of_lt_succ (Nat.mod_lt (i * 5 + 1 + p / 32) (Nat.succ_pos mask))
theorem b7p {mask : Nat} : ∀ {n : Nat} {x : Nat × Nat}, x.1 <= mask -> (a3q mask n x).1 <= mask
 | 0, x, h => h
 | n + 1, x, h => b7p (n := n) a8n
theorem b3r (mask : Nat) : ∀ (a b : Nat) (x : Nat × Nat), a3q mask (a + b) x = a3q mask b (a3q mask a x)
 | 0, b, x => by erw [Nat.zero_add]; rfl
 | a + 1, b, x => by erw [Nat.succ_add]; exact b3r mask a b _
theorem b3s (mask : Nat) : ∀ (n : Nat) (x : Nat × Nat), (a3q mask n x).2 = x.2 / 32 ^ n
 | 0, x => by simp [a3q]
 | n + 1, x => by
  show (a3q mask n (SetTable.leap mask x.1 x.2)).2 = _
  erw [b3s mask n]
  show x.2 / 32 / 32 ^ n = _
  erw [Nat.div_div_eq_div_mul, Nat.pow_succ, Nat.mul_comm]
theorem b0d (mask : Nat) : ∀ (n i : Nat), a3q mask n (i, 0) = (iter (b8v mask) n i, 0)
 | 0, i => rfl
 | n + 1, i => by
  show a3q mask n (SetTable.leap mask i 0) = _
  have : SetTable.leap mask i 0 = (b8v mask i, 0) := rfl
  erw [this, b0d mask n]; rfl
theorem b3t {mask : Nat} (h : a5v mask = true) {i p e : Nat} (hi : i <= mask) (hp : p < 2 ^ 64) (he : e <= mask) : ∃ n, 1 <= n /\ n <= mask + 13 /\ (a3q mask n (i, p)).1 = e := by
 have h2 : (a3q mask 13 (i, p)).2 = 0 := by
  erw [b3s]
  exact Nat.div_eq_of_lt (Nat.lt_trans hp (by decide))
 have h1 : (a3q mask 13 (i, p)).1 <= mask := b7p hi
 refine xEA (d0e h h1 he) fun q hq e1 => ?_
 refine ⟨13 + q, by exact om67, by exact om68 hq, ?_⟩
 erw [b3r, show a3q mask 13 (i, p) = ((a3q mask 13 (i, p)).1, 0) from Prod.ext rfl h2, b0d]
 exact e1
structure ProbeOk (mask : Nat) (p : SetTable.Probe) : Prop where
 i : p.i <= mask
 j : p.j + p.more <= mask
 more : p.more <= 9
 per : p.perturb < 2 ^ 64
 dummy : p.dummy = none
theorem c2h {mask i : Nat} (hi : i <= mask) : i + (SetTable.runEnd mask i - i) <= mask /\ SetTable.runEnd mask i - i <= 9 := by
 unfold SetTable.runEnd
 split <;> omega
theorem c6f (t : SetTable) (h : Int) : ProbeOk t.mask (t.probeStart h) := by
 have hi : SetTable.bits h % (t.mask + 1) <= t.mask := Nat.le_of_lt_succ (Nat.mod_lt (SetTable.bits h) (Nat.succ_pos t.mask))
 have := c2h hi
 refine ⟨hi, this.1, this.2, ?_, rfl⟩
 show SetTable.bits h < 2 ^ 64
 unfold SetTable.bits
 have h1 := Int.emod_lt_of_pos h (show (0 : Int) < 2 ^ 64 by decide)
 have h2 := Int.emod_nonneg h (show (2 ^ 64 : Int) ≠ 0 by decide)
 omega
noncomputable def jump (mask : Nat) (x : Nat × Nat) : SetTable.Probe := { j := x.1, more := SetTable.runEnd mask x.1 - x.1, i := x.1, perturb := x.2, dummy := none }
theorem c7t {t : SetTable} {p : SetTable.Probe} (h : ProbeOk t.mask p) : ProbeOk t.mask (t.advance p) := by
 unfold SetTable.advance
 by_cases hm : p.more > 0
 ·erw [if_pos hm]
  exact ⟨h.i, by have := h.j; show p.j + 1 + (p.more - 1) <= _; exact om69 this hm, by have := h.more; show p.more - 1 <= 9; exact om70 this, h.per, h.dummy⟩
 ·erw [if_neg hm]
  have h1 := c2h (a8n (mask := t.mask) (i := p.i) (p := p.perturb))
  refine ⟨a8n, h1.1, h1.2, ?_, h.dummy⟩
  show p.perturb / 32 < 2 ^ 64
  exact Nat.lt_of_le_of_lt (Nat.div_le_self _ _) h.per
noncomputable def advs (t : SetTable) : Nat -> SetTable.Probe -> SetTable.Probe
 | 0, p => p
 | n + 1, p => advs t n (t.advance p)
theorem b1q (t : SetTable) : ∀ (a b : Nat) (p : SetTable.Probe), advs t (a + b) p = advs t b (advs t a p)
 | 0, b, p => by erw [Nat.zero_add]; rfl
 | a + 1, b, p => by erw [Nat.succ_add]; exact b1q t a b _
theorem b1r (t : SetTable) : ∀ (n : Nat) (p : SetTable.Probe), p.more = n -> p.dummy = none -> advs t (n + 1) p = jump t.mask (SetTable.leap t.mask p.i p.perturb)
 | 0, p, h, hd => by
  show t.advance p = _
  unfold SetTable.advance
  rw [if_neg (om71 h)]
  show ({ p with j := _, more := _, i := _, perturb := _ } : SetTable.Probe) = jump _ _
  unfold jump
  erw [hd]; rfl
 | n + 1, p, h, hd => by
  show advs t (n + 1) (t.advance p) = _
  have e : t.advance p = { p with j := p.j + 1, more := p.more - 1 } := by unfold SetTable.advance; rw [if_pos (om72 h)]
  erw [e]
  exact b1r t n _ (by show p.more - 1 = n; exact om73 h) hd
theorem b3u (t : SetTable) : ∀ (n : Nat) (p : SetTable.Probe), ProbeOk t.mask p -> ∃ m, m <= 10 * (n + 1) /\ advs t m p = jump t.mask (a3q t.mask (n + 1) (p.i, p.perturb))
 | 0, p, h => ⟨p.more + 1, by have := h.more; exact om74 this, b1r t p.more p rfl h.dummy⟩
 | n + 1, p, h => by
  have e := b1r t p.more p rfl h.dummy
  have hok : ProbeOk t.mask (jump t.mask (SetTable.leap t.mask p.i p.perturb)) := by
   have h1 := c2h (a8n (mask := t.mask) (i := p.i) (p := p.perturb))
   exact ⟨a8n, h1.1, h1.2, Nat.lt_of_le_of_lt (Nat.div_le_self _ _) h.per, rfl⟩
  refine xEA (b3u t n _ hok) fun m hm e2 => ?_
  refine ⟨p.more + 1 + m, by have := h.more; exact om75 this hm, ?_⟩
  erw [b1q, e, e2]; rfl
theorem visit (t : SetTable) (ho : a5v t.mask = true) {p : SetTable.Probe} (h : ProbeOk t.mask p) {e : Nat} (he : e <= t.mask) : ∃ m, m < 10 * SetTable.turns t.mask /\ (advs t m p).j = e := by
 refine xEAA (b3t ho h.i h.per he) fun n h1 h2 h3 => ?_
 obtain ⟨k, rfl⟩ : ∃ k, n = k + 1 := ⟨n - 1, by exact om76 h1⟩
 refine xEA (b3u t k p h) fun m hm e1 => ?_
 refine ⟨m, ?_, by erw [e1]; exact h3⟩
 unfold SetTable.turns
 exact om77 hm h2
set_option tactic.hygienic true in
theorem a3r {t : SetTable} (hd : t.dummies = #[]) (j : Nat) : t.slot j ≠ .dummy := by
 unfold SetTable.slot
 dsimp only
 split
 ·intro h; cases h
 ·split
  ·rename_i h
   unfold SetTable.has at h
   rw [hd] at h
   exact absurd h (by simp)
  ·intro h; cases h
set_option tactic.hygienic true in
theorem c2i {t : SetTable} {f : Nat -> Int} {h : Int} (hd : t.dummies = #[]) : ∀ {fuel : Nat} {p : SetTable.Probe}, SetTable.probe.go t f h fuel p = none -> ∀ m, m < fuel -> t.slot (advs t m p).j ≠ .empty
 | 0, p, _, m, hm => absurd hm (Nat.not_lt_zero _)
 | fuel + 1, p, hn, m, hm => by
  unfold SetTable.probe.go at hn
  split at hn
  ·exact dSN hn
  ·rename_i e; exact absurd e (a3r hd _)
  ·rename_i i e
   split at hn
   ·exact dSN hn
   ·cases m with
    | zero => show t.slot p.j ≠ _; erw [e]; intro h; cases h
    | succ m => exact c2i hd hn m (om78 hm)
set_option tactic.hygienic true in
theorem go_some {t : SetTable} {f : Nat -> Int} {h : Int} (hd : t.dummies = #[]) : ∀ {fuel : Nat} {p : SetTable.Probe} {met : SetTable.Met}, ProbeOk t.mask p -> SetTable.probe.go t f h fuel p = some met ->
  (∃ j, met = .empty j none /\ t.slot j = .empty /\ j <= t.mask) ∨ ∃ j i m, met = .candidate j i (advs t (m + 1) p) /\ t.slot j = .live i /\ f i = h /\ ProbeOk t.mask (advs t (m + 1) p) /\ ∀ m', m' <= m -> t.slot (advs t m' p).j ≠ .empty
 | 0, p, met, _, hn => by exact dNS hn
 | fuel + 1, p, met, hp, hn => by
  unfold SetTable.probe.go at hn
  split at hn
  ·rename_i e
   cases hn
   erw [hp.dummy]
   exact .inl ⟨p.j, rfl, e, by have := hp.j; exact om79 this⟩
  ·rename_i e; exact absurd e (a3r hd _)
  ·rename_i i e
   split at hn
   ·rename_i hf
    cases hn
    refine .inr ⟨p.j, i, 0, rfl, e, eq_of_beq hf, c7t hp, fun m' hm' => ?_⟩
    have : m' = 0 := by exact om80 hm'
    subst this
    show t.slot p.j ≠ _
    erw [e]; intro h; cases h
   ·rcases go_some hd (c7t hp) hn with h1 | ⟨j, i', m, h1, h2, h3, h4, h5⟩
    ·exact .inl h1
    ·refine .inr ⟨j, i', m + 1, h1, h2, h3, h4, fun m' hm' => ?_⟩
     cases m' with
     | zero => show t.slot p.j ≠ _; erw [e]; intro h; cases h
     | succ m' => exact h5 m' (om81 hm')
set_option tactic.hygienic true in
theorem b7q {t : SetTable} {j i : Nat} (h : t.slot j = .live i) : t.place[i]? = some j := by
 unfold SetTable.slot at h
 dsimp only at h
 split at h
 ·rename_i e
  cases h
  exact eq_of_beq e
 ·split at h <;> cases h
theorem b0e {t : SetTable} (hd : t.dummies = #[]) (hs : t.place.size <= t.mask) : ∃ e, e <= t.mask /\ t.slot e = .empty := by
 refine Classical.byContradiction fun hn => ?_
 have h1 : List.range (t.mask + 1) ⊆ t.place.toList := fun j hj => by
  have hj := List.mem_range.mp hj
  cases h : t.slot j with
  | empty => exact absurd ⟨j, by exact om82 hj, h⟩ hn
  | dummy => exact absurd h (a3r hd j)
  | live i => exact Array.mem_toList_iff.mpr (Array.mem_of_getElem? (b7q h))
 have h2 := List.Nodup.length_le_of_subset List.nodup_range h1
 rw [List.length_range, Array.length_toList] at h2
 omega
theorem probe_ok {t : SetTable} (ho : a5v t.mask = true) (hd : t.dummies = #[]) (hs : t.place.size <= t.mask) (f : Nat -> Int) (h : Int) {p : SetTable.Probe} (hp : ProbeOk t.mask p) :
  (∃ j, t.probe f h p = some (.empty j none) /\ t.slot j = .empty /\ j <= t.mask) ∨ ∃ j i m, t.probe f h p = some (.candidate j i (advs t (m + 1) p)) /\ t.slot j = .live i /\ f i = h /\ ProbeOk t.mask (advs t (m + 1) p) /\ ∀ m', m' <= m -> t.slot (advs t m' p).j ≠ .empty := by
 cases hr : t.probe f h p with
 | none =>
  refine xEA (b0e hd hs) fun e he h1 => ?_
  refine xEA (visit t ho hp he) fun m hm h2 => ?_
  exact absurd h1 (h2 ▸ c2i hd hr m hm)
 | some met =>
  rcases go_some hd hp hr with ⟨j, rfl, h1, h2⟩ | ⟨j, i, m, rfl, h1⟩
  ·exact .inl ⟨j, rfl, h1, h2⟩
  ·exact .inr ⟨j, i, m, rfl, h1⟩
theorem c2j {t : SetTable} (hr : a3p t.place) {j : Nat} (h : t.slot j = .empty) : ∀ i : Nat, t.place[i]? ≠ some j := fun i hi => by
 obtain ⟨hl, e⟩ := Array.getElem?_eq_some_iff.mp hi
 have hc := a8m hr j
 have eg : t.place.getD i j = j := by simp [Array.getD, hl, e]
 have h1 : ¬ i < SetTable.below t.place j := fun hlt => by have := hc.lo i hlt; omega
 have h2 : SetTable.below t.place j = i := by
  rcases Nat.lt_or_ge (SetTable.below t.place j) i with hlt | hge
  ·have a1 := hc.hi _ (Nat.le_refl _) (Nat.lt_trans hlt hl)
   have a2 := a8l hr (j := j) hlt hl
   exact om83 a2 eg a1
  ·exact om84 hge h1
 unfold SetTable.slot at h
 dsimp only at h
 rw [h2, hi] at h
 simp at h
end Mine
end
section
namespace Mine
open PySem
section
variable {mask : Nat} {owner : Array (Option Nat)}
set_option tactic.hygienic true in
theorem b3v : ∀ {n i p : Nat}, SetTable.layClean.free mask owner n i p = none -> ∀ L, L < n -> (owner.getD (a3q mask L (i, p)).1 (some 0)).isNone = false
 | 0, i, p, _, L, hL => absurd hL (Nat.not_lt_zero _)
 | n + 1, i, p, h, L, hL => by
  unfold SetTable.layClean.free at h
  split at h
  ·exact dSN h
  ·rename_i hf
   cases L with
   | zero =>
    have := List.find?_eq_none.mp hf 0 (List.mem_range.mpr (by unfold SetTable.runEnd; split <;> omega))
    have h0 : ¬ (owner.getD i (some 0)).isNone = true := this
    show (owner.getD i (some 0)).isNone = false
    cases hb : (owner.getD i (some 0)).isNone with
    | true => exact absurd hb h0
    | false => rfl
   | succ L => exact b3v (n := n) h L (om78 hL)
set_option tactic.hygienic true in
theorem c2k : ∀ {n i p j : Nat}, SetTable.layClean.free mask owner n i p = some j -> (owner.getD j (some 0)).isNone = true
 | 0, i, p, j, h => by exact dNS h
 | n + 1, i, p, j, h => by
  unfold SetTable.layClean.free at h
  split at h
  ·rename_i k hf
   cases h
   exact List.find?_some (p := fun k => (owner.getD (i + k) (some 0)).isNone) hf
  ·exact c2k (n := n) h
set_option tactic.hygienic true in
theorem d0f {j : Nat} (h : (owner.getD j (some 0)).isNone = true) : owner[j]? = some none := by
 unfold Array.getD at h
 split at h
 ·rename_i hl
  erw [Array.getElem?_eq_getElem hl]
  have : owner[j] = none := by simpa using h
  erw [this]
 ·exact dFT h
theorem c2l (ho : a5v mask = true) {i p e : Nat} (hi : i <= mask) (hp : p < 2 ^ 64) (he : e <= mask) (hn : owner[e]? = some none) : ∃ j, SetTable.layClean.free mask owner (SetTable.turns mask) i p = some j /\ owner[j]? = some none := by
 cases hr : SetTable.layClean.free mask owner (SetTable.turns mask) i p with
 | some j => exact ⟨j, rfl, d0f (c2k hr)⟩
 | none =>
  exfalso
  refine xEAA (b3t ho hi hp he) fun n h1 h2 h3 => ?_
  have := b3v hr n (by unfold SetTable.turns; exact om85 h2)
  rw [h3] at this
  obtain ⟨hl, e1⟩ := Array.getElem?_eq_some_iff.mp hn
  simp [Array.getD, hl, e1] at this
noncomputable def a4h (mask : Nat) (owner : Array (Option Nat)) : List (Nat × Nat) := (List.range (mask + 1)).filterMap fun j => (owner.getD j none).map (j, ·)
theorem a5w {α β : Type} {g g' : α -> Option β} {j : α} {v : β} : ∀ {l : List α}, l.Nodup -> j ∈ l -> g j = none -> g' j = some v -> (∀ x, x ≠ j -> g' x = g x) -> (l.filterMap g').Perm (v :: l.filterMap g)
 | [], _, h, _, _, _ => absurd h (by simp)
 | a :: l, nd, h, h1, h2, h3 => by
  rw [List.nodup_cons] at nd
  by_cases e : a = j
  ·subst e
   have hsame : l.filterMap g' = l.filterMap g := by
    have : ∀ l' : List α, (∀ x ∈ l', x ≠ a) -> l'.filterMap g' = l'.filterMap g := by
     intro l'
     induction l' with
     | nil => intro _; rfl
     | cons b l' ih =>
      intro hb
      have eb := h3 b (hb b (by simp))
      have er := ih fun x hx => hb x (by simp [hx])
      cases hg : g b with
      | none => erw [List.filterMap_cons_none (eb.trans hg), List.filterMap_cons_none hg, er]
      | some c => erw [List.filterMap_cons_some (eb.trans hg), List.filterMap_cons_some hg, er]
    exact this l fun x hx e => nd.1 (e ▸ hx)
   erw [List.filterMap_cons_some h2, List.filterMap_cons_none h1, hsame]
  ·have hj : j ∈ l := by rcases List.mem_cons.mp h with h | h; exact absurd h.symm e; exact h
   have ih := a5w nd.2 hj h1 h2 h3
   cases hg : g a with
   | none => rw [List.filterMap_cons_none (by rw [h3 a e, hg]), List.filterMap_cons_none hg]; exact ih
   | some b => erw [List.filterMap_cons_some (by rw [h3 a e, hg]), List.filterMap_cons_some hg]; exact (ih.cons b).trans (List.Perm.swap _ _ _)
theorem d0g (hsz : owner.size = mask + 1) {j k : Nat} (hn : owner[j]? = some none) : (a4h mask (owner.setIfInBounds j (some k))).Perm ((j, k) :: a4h mask owner) := by
 obtain ⟨hl, e1⟩ := Array.getElem?_eq_some_iff.mp hn
 unfold a4h
 refine a5w (j := j) (v := (j, k)) List.nodup_range (List.mem_range.mpr (om86 hl hsz)) ?_ ?_ fun x hx => ?_
 ·simp [Array.getD, hl, e1]
 ·simp [Array.getD, hl]
 ·congr 1
  unfold Array.getD
  by_cases hx2 : x < owner.size
  ·rw [dif_pos hx2, dif_pos (by erw [Array.size_setIfInBounds]; exact hx2)]
   exact Array.getElem_setIfInBounds_ne hx2 (Ne.symm hx)
  ·erw [dif_neg hx2, dif_neg (by erw [Array.size_setIfInBounds]; exact hx2)]
theorem a4m {α β : Type} {g : α -> Option β} : ∀ {l : List α}, (∀ x ∈ l, g x ≠ none) -> (l.filterMap g).length = l.length
 | [], _ => rfl
 | a :: l, h => by
  obtain ⟨b, hb⟩ := Option.ne_none_iff_exists'.mp (h a (by simp))
  rw [List.filterMap_cons_some hb, List.length_cons, List.length_cons, a4m fun x hx => h x (by simp [hx])]
theorem c2m (hsz : owner.size = mask + 1) (h : (a4h mask owner).length <= mask) : ∃ e, e <= mask /\ owner[e]? = some none := by
 refine Classical.byContradiction fun hn => ?_
 have := a4m (g := fun j => (owner.getD j none).map (j, ·)) (l := List.range (mask + 1)) fun x hx => by
  have hx := List.mem_range.mp hx
  intro hc
  apply hn
  refine ⟨x, by exact om82 hx, ?_⟩
  have hl : x < owner.size := by exact om87 hx hsz
  rw [Option.map_eq_none_iff] at hc
  have : owner[x] = none := by simpa [Array.getD, hl] using hc
  erw [Array.getElem?_eq_getElem hl, this]
 unfold a4h at h
 rw [List.length_range] at this
 omega
noncomputable def b5m (mask : Nat) (acc : Option (Array (Option Nat) × Nat)) (h : Int) : Option (Array (Option Nat) × Nat) := do
 let (owner, k) ← acc
 let j ← SetTable.layClean.free mask owner (SetTable.turns mask) (SetTable.bits h % (mask + 1)) (SetTable.bits h)
 pure (owner.setIfInBounds j (some k), k + 1)
theorem d0h (h : Int) : SetTable.bits h < 2 ^ 64 := by
 unfold SetTable.bits
 have h1 := Int.emod_lt_of_pos h (show (0 : Int) < 2 ^ 64 by decide)
 have h2 := Int.emod_nonneg h (show (2 ^ 64 : Int) ≠ 0 by decide)
 omega
theorem b7r (ho : a5v mask = true) : ∀ (hs : List Int) (owner : Array (Option Nat)) (k : Nat), owner.size = mask + 1 -> ((a4h mask owner).map (·.2)).Perm (List.range k) -> k + hs.length <= mask ->
  ∃ owner', hs.foldl (b5m mask) (some (owner, k)) = some (owner', k + hs.length) /\ owner'.size = mask + 1 /\ ((a4h mask owner').map (·.2)).Perm (List.range (k + hs.length))
 | [], owner, k, hsz, hp, hk => ⟨owner, rfl, hsz, hp⟩
 | h :: hs, owner, k, hsz, hp, hk => by
  have hlen := hp.length_eq
  rw [List.length_map, List.length_range] at hlen
  simp only [List.length_cons] at hk
  refine xEA (c2m hsz (om88 hlen hk)) fun e he hn => ?_
  refine xEA (c2l ho (i := SetTable.bits h % (mask + 1)) (p := SetTable.bits h) (Nat.le_of_lt_succ (Nat.mod_lt _ (Nat.succ_pos mask))) (d0h h) he hn) fun j hj hj2 => ?_
  have e1 : b5m mask (some (owner, k)) h = some (owner.setIfInBounds j (some k), k + 1) := by
   show (SetTable.layClean.free mask owner (SetTable.turns mask) (SetTable.bits h % (mask + 1)) (SetTable.bits h)).bind _ = _
   erw [hj]; rfl
  have hp2 : ((a4h mask (owner.setIfInBounds j (some k))).map (·.2)).Perm (List.range (k + 1)) := by
   refine ((d0g hsz (k := k) hj2).map (·.2)).trans ?_
   erw [List.map_cons, List.range_succ]
   exact ((hp.cons k).trans (List.perm_append_singleton k (List.range k)).symm)
  refine xEAA (b7r ho hs _ (k + 1) (by erw [Array.size_setIfInBounds]; exact hsz) hp2 (om89 hk)) fun o' g1 g2 g3 => ?_
  refine ⟨o', ?_, g2, ?_⟩
  ·erw [List.foldl_cons, e1, g1, List.length_cons]; congr 2; exact om90
  ·erw [List.length_cons, show k + (hs.length + 1) = k + 1 + hs.length by exact om91]; exact g3
theorem c2n (ho : a5v mask = true) (hashes : Array Int) (hk : hashes.size <= mask) (finger moves : Nat) (led plain : Bool) :
  ∃ t order, SetTable.laid mask finger moves led plain hashes = some (t, order) /\ t.mask = mask /\ t.dummies = #[] /\ t.led = led /\ t.plain = plain /\ a3p t.place /\ t.place.size = hashes.size /\ order.toList.Perm (List.range hashes.size) := by
 have hz : ((a4h mask (Array.replicate (mask + 1) none)).map (·.2)).Perm (List.range 0) := by
  have : a4h mask (Array.replicate (mask + 1) none) = [] := by
   unfold a4h
   refine List.filterMap_eq_nil_iff.mpr fun x hx => ?_
   have := List.mem_range.mp hx
   simp [Array.getD]
  erw [this]; exact List.Perm.refl _
 refine xEAA (b7r ho hashes.toList (Array.replicate (mask + 1) none) 0 (by simp) hz (by simpa using hk)) fun o' g1 g2 g3 => ?_
 rw [Nat.zero_add, Array.length_toList] at g3
 have e1 : SetTable.layClean mask hashes = some o' := by
  unfold SetTable.layClean
  erw [← Array.foldl_toList]
  have : (List.foldl (b5m mask) (some (Array.replicate (mask + 1) none, 0)) hashes.toList).map (·.1) = some o' := by erw [g1]; rfl
  exact this
 refine ⟨{ mask, place := ((a4h mask o').map (·.1)).toArray, dummies := #[], finger, led, moves, plain }, ((a4h mask o').map (·.2)).toArray, ?_, rfl, rfl, rfl, rfl, ?_, ?_, ?_⟩
 ·unfold SetTable.laid
  erw [e1]; rfl
 ·show ((a4h mask o').map (·.1)).Pairwise (· < ·)
  rw [List.pairwise_map]
  unfold a4h
  rw [List.pairwise_filterMap]
  refine List.pairwise_lt_range.imp fun {a b} hab x hx y hy => ?_
  obtain ⟨_, _, rfl⟩ := Option.map_eq_some_iff.mp hx
  obtain ⟨_, _, rfl⟩ := Option.map_eq_some_iff.mp hy
  exact hab
 ·show ((a4h mask o').map (·.1)).length = _
  have := g3.length_eq
  rw [List.length_map, List.length_range] at this
  erw [List.length_map]; exact this
 ·exact g3
theorem b7s {α : Type} (es : Array α) {order : Array Nat} (h : order.toList.Perm (List.range es.size)) : (order.filterMap (es[·]?)).toList.Perm es.toList := by
 erw [Array.toList_filterMap]
 refine (h.filterMap _).trans ?_
 have : ∀ n, n <= es.size -> (List.range n).filterMap (es[·]?) = es.toList.take n := by
  intro n
  induction n with
  | zero => intro _; rfl
  | succ n ih =>
   intro hn
   erw [List.range_succ, List.filterMap_append, ih (om26 hn), List.take_add_one, List.filterMap_cons, Array.getElem?_toList, Array.getElem?_eq_getElem (by exact om92 hn : n < es.size)]
   rfl
 rw [this es.size (Nat.le_refl _), List.take_of_length_le (by simp)]
structure TabOk (t : SetTable) (n : Nat) (led : Bool) : Prop where
 size : t.place.size = n
 dummies : t.dummies = #[]
 rise : a3p t.place
 mask : (t.mask = 7 /\ n < 5) ∨ (t.mask = 31 /\ n < 19) ∨ (t.mask = 127 /\ n < 77)
 led : t.led = led
 plain : t.plain = true
theorem TabOk.orb {t : SetTable} {n : Nat} {led : Bool} (h : TabOk t n led) : a5v t.mask = true := by
 rcases h.mask with ⟨e, _⟩ | ⟨e, _⟩ | ⟨e, _⟩
 ·erw [e]; exact orb7
 ·erw [e]; exact orb31
 ·erw [e]; exact c7s
theorem TabOk.le {t : SetTable} {n : Nat} {led : Bool} (h : TabOk t n led) : n <= t.mask := by
 rcases h.mask with ⟨e, _⟩ | ⟨e, _⟩ | ⟨e, _⟩ <;> omega
theorem TabOk.fits {t : SetTable} {n : Nat} {led : Bool} (h : TabOk t n led) : t.fits n = true := by
 have := h.le
 simp only [SetTable.fits, SetTable.fill, Bool.and_eq_true, beq_iff_eq, decide_eq_true_eq, h.size, h.dummies]
 exact ⟨trivial, by show n + 0 <= _; exact om93 this⟩
theorem TabOk.odd {t : SetTable} {n : Nat} {led : Bool} (h : TabOk t n led) : t.gaveWay = false := by
 unfold SetTable.gaveWay
 rcases h.mask with ⟨e, _⟩ | ⟨e, _⟩ | ⟨e, _⟩ <;> erw [e] <;> rfl
theorem a8o {α : Type} (xs : Array α) (p : Nat) (x : α) : (SetTable.insertAt xs p x).toList = xs.toList.take p ++ x :: xs.toList.drop p := by
 unfold SetTable.insertAt
 simp [List.extract_eq_take_drop]
 exact List.take_of_length_le (by simp)
theorem b3w {xs : Array Nat} (hr : a3p xs) {j : Nat} (hn : ∀ i : Nat, xs[i]? ≠ some j) : a3p (SetTable.insertAt xs (SetTable.below xs j) j) := by
 have hc := a8m hr j
 unfold a3p
 erw [a8o, List.pairwise_append, List.pairwise_cons]
 have at_ : ∀ {i : Nat} {x : Nat}, xs.toList[i]? = some x -> i < xs.size /\ xs.getD i j = x := fun {i x} h => by
  rw [Array.getElem?_toList] at h
  obtain ⟨h1, h2⟩ := Array.getElem?_eq_some_iff.mp h
  exact ⟨h1, by simp [Array.getD, h1, h2]⟩
 have lo : ∀ x ∈ xs.toList.take (SetTable.below xs j), x < j := fun x hx => by
  obtain ⟨i, hi⟩ := List.mem_iff_getElem?.mp hx
  have hl : i < SetTable.below xs j := by
   have := (List.getElem?_eq_some_iff.mp hi).1
   rw [List.length_take] at this; exact om94 this
  rw [List.getElem?_take_of_lt hl] at hi
  have := hc.lo i hl
  rw [(at_ hi).2] at this; exact this
 have hi : ∀ x ∈ xs.toList.drop (SetTable.below xs j), j < x := fun x hx => by
  obtain ⟨i, hi⟩ := List.mem_iff_getElem?.mp hx
  rw [List.getElem?_drop] at hi
  have h1 := at_ hi
  have := hc.hi _ (Nat.le_add_right _ i) h1.1
  rw [h1.2] at this
  have hne : x ≠ j := fun e => by
   subst e
   rw [Array.getElem?_toList] at hi
   exact hn _ hi
  exact om95 this hne
 exact ⟨List.Pairwise.sublist (List.take_sublist _ _) hr, ⟨hi, List.Pairwise.sublist (List.drop_sublist _ _) hr⟩, fun a ha b hb => by
  rcases List.mem_cons.mp hb with rfl | hb
  ·exact lo a ha
  ·exact Nat.lt_trans (lo a ha) (hi b hb)⟩
theorem a8p {α : Type} (xs : Array α) (p : Nat) (x : α) : (SetTable.insertAt xs p x).toList.Perm (x :: xs.toList) := by
 erw [a8o]
 refine List.perm_middle.trans ?_
 erw [List.take_append_drop]
theorem a8q {α : Type} (xs : Array α) (p : Nat) (x : α) : (SetTable.insertAt xs p x).size = xs.size + 1 := by
 have := (a8p xs p x).length_eq
 simpa using this
theorem c6g {t : SetTable} {n : Nat} (hs : t.place.size = n) (hd : t.dummies = #[]) : t.tooFull = decide (n * 5 ≥ t.mask * 3) := by
 unfold SetTable.tooFull SetTable.fill
 erw [hs, hd]; rfl
end
end Mine
end
section
namespace Mine
open PySem PyProof.Rows
section
variable {prog : Program} {w : World} {A : Around} {E : Value -> Shared -> Prop} {s : Shared}
abbrev TK (prog : Program) (w : World) := IsTupleKey (intKind prog w)
theorem a8r {ks : List Int} {a : Addr} {Q : Bool -> Shared -> Prop} (hk : TK prog w s.heap ks a) (h : Q true s) : wpAny (model prog w) A (hashByValue 8 (.ref a)) Q E s := by
 have hT := hk.typeIs
 obtain ⟨o, items, n, ho, _, hd, hi⟩ := hk
 refine wpAny_bind (wpAny_specialOf hT F.slot_tuple_hash.lookup ?_)
 show wpAny _ _ (seqItems? (.ref a) >>= _) _ _ s
 refine wpAny_bind (wpAny_seqItems ho hd ?_)
 refine wpAny_bind ?_
 show wpAny _ _ (forIn items _ _) _ _ s
 rw [← Array.forIn_toList]
 refine wpAny_forIn_list _ (fun rest r s' => r.1 = none /\ s' = s /\ ∃ ks', ItemsAre (intKind prog w) ks' rest) _ ?_ ?_ _ _ ⟨rfl, rfl, _, hi⟩
 ·rintro v rest r s' ⟨hr, rfl, ks', hl⟩
  cases hl with
  | @cons k _ ks'' _ h1 hl' =>
   have : hashByValue 7 v = pure true := (Value.isInt_shape h1).elim fun t e => e ▸ rfl
   erw [this]
   refine wpAny_bind (wpAny_pure ?_)
   simp only [Bool.not_true, Bool.false_eq_true, if_false]
   exact wpAny_pure ⟨rfl, rfl, _, hl'⟩
 ·rintro ⟨r1, r2⟩ s' ⟨hr, rfl, _⟩
  simp only at hr
  subst hr
  exact wpAny_pure h
theorem a6v {ks : List Int} {a : Addr} {Q : Bool -> Shared -> Prop} (hk : TK prog w s.heap ks a) (h : Q false s) : wpAny (model prog w) A (ofAClassStatement 8 (.ref a)) Q E s := by
 have hT := hk.typeIs
 obtain ⟨o, items, n, ho, _, hd, hi⟩ := hk
 unfold ofAClassStatement
 refine wpAny_bind (wpAny_typeOf hT ?_)
 show wpAny _ _ (_ >>= _) _ _ s
 refine wpAny_bind (wpAny_pure ?_)
 simp only [Bool.not_true, Bool.false_eq_true, if_false]
 refine wpAny_bind (wpAny_seqItems ho hd ?_)
 dsimp only
 refine wpAny_bind ?_
 show wpAny _ _ (forIn items _ _) _ _ s
 rw [← Array.forIn_toList]
 refine wpAny_forIn_list _ (fun rest r s' => r.1 = none /\ s' = s /\ ∃ ks', ItemsAre (intKind prog w) ks' rest) _ ?_ ?_ _ _ ⟨rfl, rfl, _, hi⟩
 ·rintro v rest r s' ⟨hr, rfl, ks', hl⟩
  cases hl with
  | @cons k _ ks'' _ h1 hl' =>
   have : ofAClassStatement 7 v = pure false := (Value.isInt_shape h1).elim fun t e => e ▸ rfl
   erw [this]
   refine wpAny_bind (wpAny_pure ?_)
   simp only [Bool.false_eq_true, if_false]
   exact wpAny_pure ⟨rfl, rfl, _, hl'⟩
 ·rintro ⟨r1, r2⟩ s' ⟨hr, rfl, _⟩
  simp only at hr
  subst hr
  exact wpAny_pure h
theorem b8w {ks : List Int} {a : Addr} (hk : TK prog w s.heap ks a) {stored : List Value} (hs : ∀ v ∈ stored, ∃ ks' b, v = .ref b /\ TK prog w s.heap ks' b) {Q : Bool -> Shared -> Prop} (h : Q false s) : wpAny (model prog w) A (searchCouldBeSeen (.ref a) stored) Q E s := by
 unfold searchCouldBeSeen
 refine wpAny_bind ?_
 refine wpAny_forIn_list _ (fun rest r s' => r.1 = none /\ s' = s /\ ∀ v ∈ rest, ∃ ks' b, v = .ref b /\ TK prog w s.heap ks' b) _ ?_ ?_ _ _ ⟨rfl, rfl, hs⟩
 ·rintro v rest r s' ⟨hr, rfl, hall⟩
  obtain ⟨ks', b, rfl, hb⟩ := hall v List.mem_cons_self
  have hall' : ∀ v ∈ rest, ∃ ks' b, v = .ref b /\ TK prog w s'.heap ks' b := fun v hv => hall v (List.mem_cons_of_mem _ hv)
  dsimp only
  refine wpAny_ite_split (fun ζ => wpAny_pure ⟨rfl, rfl, hall'⟩) fun ζ => ?_
  refine wpAny_bind (wpAny_eqIsQuiet_tuple hk ?_)
  simp only [Bool.not_true, Bool.false_eq_true, if_false]
  refine wpAny_bind (wpAny_eqIsQuiet_tuple hb ?_)
  simp only [Bool.not_true, Bool.false_eq_true, if_false]
  refine wpAny_bind (a6v hk ?_)
  simp only [Bool.false_eq_true, if_false]
  refine wpAny_bind (a6v hb ?_)
  simp only [Bool.false_eq_true, if_false]
  exact wpAny_pure ⟨rfl, rfl, hall'⟩
 ·rintro ⟨r1, r2⟩ s' ⟨hr, rfl, _⟩
  simp only at hr
  subst hr
  exact wpAny_pure h
end
end Mine
end
section
namespace Mine
open PySem PyProof.Rows
section
variable {PB : Addr -> Prop} {prog : Program} {w : World} {A : Around} {E : Value -> Shared -> Prop} {s : Shared}
abbrev TEnt := Array (Int × Value)
noncomputable def a4i (es : TEnt) (ep : Nat) (t : SetTable) : Obj := { cls := .type "set", dict := none, data := .set es ep t, slots := #[] }
structure TSet (PB : Addr -> Prop) (prog : Program) (w : World) (h : Heap) (a : Addr) (es : TEnt) (ep : Nat) (t : SetTable) : Prop where
 at_ : h.get? a = some (a4i es ep t)
 tab : TabOk t es.size (c6b w)
 ent : ∀ e ∈ es.toList, ∃ ks b, e = (tupleKeyHash (intKind prog w) ks, .ref b) /\ TK prog w h ks b /\ b < a /\ PB b
noncomputable def HasK (prog : Program) (w : World) (h : Heap) (es : TEnt) (ks : List Int) : Prop := ∃ e ∈ es.toList, ∃ b, e.2 = .ref b /\ TK prog w h ks b
theorem TSet.state {a : Addr} {es : TEnt} {ep : Nat} {t : SetTable} (h : TSet PB prog w s.heap a es ep t) {Q : (TEnt × Nat × SetTable) -> Shared -> Prop} (q : Q (es, ep, t) s) : wpAny (model prog w) A (setState a) Q E s :=
 wpAny_setState_of h.at_ rfl h.tab.fits q
theorem TK.same {h h' : Heap} {ks : List Int} {b : Addr} (x : TK prog w h ks b) (e : ∀ o, h.get? b = some o -> h'.get? b = some o) : TK prog w h' ks b := by
 obtain ⟨o, items, n, ho, hc, hd, hi⟩ := x
 exact ⟨o, items, n, e o ho, hc, hd, hi⟩
theorem b0f {a : Addr} {es : TEnt} {ep : Nat} {t : SetTable} (hS : TSet PB prog w s.heap a es ep t) {ks : List Int} {b : Addr} (hu : A.units < cLine) (hk : TK prog w s.heap ks b) {Q : SetFound -> Shared -> Prop}
  (h1 : HasK prog w s.heap es ks -> Q (.there none) s) (h2 : ∀ j, t.slot j = .empty -> j <= t.mask -> Q (.free j false) s) :
  ∀ (fuel : Nat) (stand : Option SetTable.Probe), ProbeOk t.mask (stand.getD (t.probeStart (tupleKeyHash (intKind prog w) ks))) -> (∃ m, m < fuel /\ t.slot (advs t m (stand.getD (t.probeStart (tupleKeyHash (intKind prog w) ks)))).j = .empty) ->
   wpAny (model prog w) A (setSearchFrom a (.ref b) (tupleKeyHash (intKind prog w) ks) true fuel stand) Q E s
 | 0, stand, _, ⟨m, hm, _⟩ => absurd hm (Nat.not_lt_zero _)
 | fuel + 1, stand, hp, ⟨m, hm, he⟩ => by
  refine wpAny_bind (hS.state ?_)
  dsimp only
  erw [hS.tab.odd]
  simp only [Bool.false_eq_true, if_false]
  rcases probe_ok hS.tab.orb hS.tab.dummies (by erw [hS.tab.size]; exact hS.tab.le) _ (tupleKeyHash (intKind prog w) ks) hp with ⟨j, e1, e2, e3⟩ | ⟨j, i, m0, e1, e2, e3, e4, e5⟩
  ·erw [e1]
   dsimp only
   exact wpAny_pure (h2 j e2 e3)
  ·erw [e1]
   dsimp only
   have hpl := b7q e2
   have hil : i < es.size := by
    have := (Array.getElem?_eq_some_iff.mp hpl).1
    rw [hS.tab.size] at this; exact this
   have hei : es[i]? = some es[i] := Array.getElem?_eq_getElem hil
   refine a0u (hS.ent es[i] (Array.getElem_mem_toList hil)) fun ks' b' ee hk' hne => ?_
   rw [ee] at hei
   have hmm : m0 < m := by
    rcases Nat.lt_or_ge m0 m with h | h
    ·exact h
    ·exact absurd he (e5 m h)
   have cont : wpAny (model prog w) A (setSearchFrom a (.ref b) (tupleKeyHash (intKind prog w) ks) true fuel (some (advs t (m0 + 1) (stand.getD (t.probeStart (tupleKeyHash (intKind prog w) ks)))))) Q E s := by
    refine b0f hS hu hk h1 h2 fuel _ e4 ⟨m - (m0 + 1), by exact om96 hm hmm, ?_⟩
    show t.slot (advs t (m - (m0 + 1)) (advs t (m0 + 1) _)).j = .empty
    erw [← b1q, show m0 + 1 + (m - (m0 + 1)) = m by exact om97 hmm]
    exact he
   have tail : wpAny (model prog w) A (do
     let some (_, y) := es[i]? | unsupported "internal:set-entry"
     let equal ← holding [y] (eqBool y (.ref b))
     let (es', _, t') ← setState a
     if true && equal then return SetFound.there none
     let some same := t'.sameMemory t.moves t.mask | unsupported "set.changed-during-lookup:is-the-new-block-at-the-old-address"
     let still ← match (if same then t'.slot j else .empty) with
      | .live i' => match es'[i']? with
       | some (_, y') => do pure (if ← isSame y' y then some i' else none)
       | none => pure none
      | _ => pure none
     match still with
     | none => do rule "set.search.anew"; setSearchFrom a (.ref b) (tupleKeyHash (intKind prog w) ks) true fuel none
     | some i' => if equal then return .there (some i') else setSearchFrom a (.ref b) (tupleKeyHash (intKind prog w) ks) true fuel (some (advs t (m0 + 1) (stand.getD (t.probeStart (tupleKeyHash (intKind prog w) ks)))))) Q E s := by
    erw [hei]
    dsimp only
    refine wpAny_bind (wpAny_holding (wpAny_eqBool_tuple hu hk' hk ?_))
    refine wpAny_bind (hS.state ?_)
    dsimp only
    by_cases hkk : ks' = ks
    ·subst hkk
     simp only [decide_true, Bool.and_self, if_true]
     exact wpAny_pure (h1 ⟨_, Array.getElem_mem_toList hil, b', by erw [ee], hk'⟩)
    ·erw [decide_eq_false hkk]
     simp only [Bool.and_false, Bool.false_eq_true, if_false]
     have hsm : t.sameMemory t.moves t.mask = some true := by unfold SetTable.sameMemory; simp
     erw [hsm]
     dsimp only
     simp only [if_true]
     erw [e2]
     dsimp only
     erw [hei]
     dsimp only
     refine wpAny_bind (wpAny_isSame_ref_self ?_)
     simp only [if_true]
     refine wpAny_bind (wpAny_pure ?_)
     exact cont
   cases hl : t.led with
   | true => simp only [Bool.not_true, Bool.false_eq_true, if_false]; exact tail
   | false =>
    simp only [Bool.not_false, if_true]
    refine wpAny_bind (b8w hk (fun v hv => ?_) ?_)
    ·obtain ⟨e, he1, rfl⟩ := List.mem_map.mp hv
     have he2 : e ∈ es.toList := by
      have := Array.mem_toList_iff.mp he1
      exact Array.mem_toList_iff.mpr (Array.mem_filter.mp this).1
     obtain ⟨ks'', b'', rfl, g2, _⟩ := hS.ent e he2
     exact ⟨ks'', b'', rfl, g2⟩
    ·simp only [Bool.false_eq_true, if_false]; exact tail
end
end Mine
end
section
namespace Mine
open PySem PyProof.Rows
section
variable {PB : Addr -> Prop} {prog : Program} {w : World} {A : Around} {E : Value -> Shared -> Prop} {s : Shared}
theorem c2o {a : Addr} {ep : Nat} {es es' : TEnt} {t t' : SetTable} (ho : s.heap.get? a = some (a4i es ep t)) (hz : es'.size <= 100) {Q : Unit -> Shared -> Prop}
  (q : ∀ h', Heap.SameBut a s.heap h' -> h'.get? a = some (a4i es' (ep + 1) t') -> Q () { s with heap := h' }) : wpAny (model prog w) A (storeSet a es' t') Q E s := by
 refine wpAny_storeSet_of ho rfl (q _ (Heap.SameBut.update s.heap a (Obj.putSet es' t')) ?_) (by erw [sizeLine_eq]; exact om98 hz)
 have := Heap.get?_update_self (Obj.putSet es' t') ho (by rw [putSet_of es' t' rfl]; rfl)
 rw [putSet_of es' t' rfl] at this; exact this
noncomputable def c2p (es : TEnt) (laid : Option (SetTable × Array Nat)) : Sem (TEnt × SetTable) := do
 let some (t, order) := laid | unsupported "internal:set-table-without-room"
 let es' := order.filterMap (es[·]?)
 if es'.size != es.size then unsupported "internal:set-table-lost-an-element"
 pure (es', t)
theorem c6h {es : TEnt} {t : SetTable} {order : Array Nat} (hp : order.toList.Perm (List.range es.size)) {Q : TEnt × SetTable -> Shared -> Prop} (h : Q (order.filterMap (es[·]?), t) s) : wpAny (model prog w) A (c2p es (some (t, order))) Q E s := by
 unfold c2p
 dsimp only
 have : (order.filterMap (es[·]?)).size = es.size := by
  have := (b7s es hp).length_eq
  rw [Array.length_toList, Array.length_toList] at this
  exact this
 erw [this]
 simp only [bne_self_eq_false, Bool.false_eq_true, if_false]
 exact wpAny_pure h
theorem d0i {a : Addr} {es : TEnt} {ep : Nat} {t : SetTable} (ho : s.heap.get? a = some (a4i es ep t)) (hf : t.fits es.size = true) {wanted M : Nat} (hM : SetTable.sizeAbove wanted = M + 1) (hMl : M <= 127) (horb : a5v M = true) (hz : es.size <= M) (hz2 : es.size <= 100) {Q : Unit -> Shared -> Prop}
  (q : ∀ h' es' t', Heap.SameBut a s.heap h' -> h'.get? a = some (a4i es' (ep + 1) t') -> es'.toList.Perm es.toList -> t'.mask = M -> t'.dummies = #[] -> t'.led = t.led -> t'.plain = t.plain -> a3p t'.place -> t'.place.size = es.size -> Q () { s with heap := h' }) :
  wpAny (model prog w) A (setRelay a wanted) Q E s := by
 unfold setRelay
 refine wpAny_bind (wpAny_setState_of ho rfl hf ?_)
 dsimp only
 have hsl : ¬ SetTable.sizeAbove wanted > sizeLine := by erw [hM, sizeLine_eq]; exact om99 hMl
 erw [if_neg hsl]
 refine b8j (c2n horb (es.map (·.1)) (by simpa using hz) t.finger (t.movedTo M) t.led t.plain) fun t' order e1 e2 e3 e4 e5 e6 e7 e8 => ?_
 have er : t.relaid (es.map (·.1)) wanted = some (t', order) := by
  unfold SetTable.relaid
  erw [hM]
  exact e1
 erw [er]
 rw [Array.size_map] at e7 e8
 refine wpAny_bind ?_
 show wpAny _ _ (c2p es (some (t', order))) _ _ _
 refine c6h e8 ?_
 dsimp only
 have hpm := b7s es e8
 refine c2o ho ?_ fun h' hsb hg => q h' _ t' hsb hg hpm e2 e3 e4 e5 e6 e7
 have : (order.filterMap (es[·]?)).size = es.size := by have := hpm.length_eq; rw [Array.length_toList, Array.length_toList] at this; exact this
 exact om100 this hz2
theorem HasK.perm {h : Heap} {es es' : TEnt} (hp : es'.toList.Perm es.toList) {ks : List Int} : HasK prog w h es' ks ↔ HasK prog w h es ks := by
 unfold HasK
 constructor
 ·rintro ⟨e, he, x⟩; exact ⟨e, hp.mem_iff.mp he, x⟩
 ·rintro ⟨e, he, x⟩; exact ⟨e, hp.mem_iff.mpr he, x⟩
theorem grow5 : SetTable.sizeAbove (SetTable.grown 5) = 31 + 1 := by decide +kernel
theorem grow19 : SetTable.sizeAbove (SetTable.grown 19) = 127 + 1 := by decide +kernel
set_option maxHeartbeats 2000000 in
theorem b8x {a : Addr} {es : TEnt} {ep : Nat} {t : SetTable} (hS : TSet PB prog w s.heap a es ep t) {ks : List Int} {b : Addr} (hu : A.units < cLine) (hk : TK prog w s.heap ks b) (hne : b < a) (hPB : PB b) (h60 : es.size < 60) {Q : Bool -> Shared -> Prop}
  (h : ∀ h' ep' es' t' bb, Heap.SameBut a s.heap h' -> TSet PB prog w h' a es' ep' t' -> es'.size <= es.size + 1 -> (∀ ks', HasK prog w h' es' ks' ↔ HasK prog w s.heap es ks' ∨ ks' = ks) -> Q bb { s with heap := h', toks := s.toks + (ks.length + 1) }) :
  wpAny (model prog w) A (setAdd a (.ref b)) Q E s := by
 unfold setAdd
 refine wpAny_holding ?_
 refine wpAny_bind (wpAny_pyHash_tuple hu hk ?_)
 unfold setAddHashed setAddHashedIn
 have hS1 : TSet PB prog w ({ s with toks := s.toks + (ks.length + 1) } : Shared).heap a es ep t := hS
 refine wpAny_holding (wpAny_bind (hS1.state ?_))
 dsimp only
 have hsc : byScan (.ref b) es = false := by simp [byScan, Value.scannable]
 erw [hsc]
 simp only [Bool.false_eq_true, if_false]
 unfold setSearch
 have hok := c6f t (tupleKeyHash (intKind prog w) ks)
 have hsz := hS.tab.size
 have hle := hS.tab.le
 refine xEA (b0e hS.tab.dummies (by erw [hsz]; exact hle)) fun e he hemp => ?_
 refine xEA (visit t hS.tab.orb hok he) fun m hm hv => ?_
 have hm2 : m < 100000 := by
  unfold SetTable.turns at hm
  rcases hS.tab.mask with ⟨e, _⟩ | ⟨e, _⟩ | ⟨e, _⟩ <;> omega
 refine wpAny_bind (b0f hS1 hu hk (fun hh => ?_) (fun j hj hjm => ?_) 100000 none hok ⟨m, hm2, by show t.slot (advs t m (t.probeStart _)).j = _; erw [hv]; exact hemp⟩)
 ·dsimp only
  refine wpAny_pure ?_
  exact h s.heap ep es t false (Heap.SameBut.refl a s.heap) hS (Nat.le_succ _) fun ks' => ⟨.inl, fun x => x.elim id fun e => e ▸ hh⟩
 ·dsimp only
  refine wpAny_bind (hS1.state ?_)
  dsimp only
  have eput : t.put j = ({ t with place := SetTable.insertAt t.place (SetTable.below t.place j) j }, SetTable.below t.place j) := by
   unfold SetTable.put
   dsimp only
   have hh : SetTable.has t.dummies j = false := by erw [hS.tab.dummies]; simp [SetTable.has]
   erw [hh]; rfl
  erw [eput]
  dsimp only
  erw [hS.tab.plain]
  simp only [if_true]
  refine wpAny_bind (a8r (s := { s with toks := s.toks + (ks.length + 1) }) hk ?_)
  simp only [if_true]
  have hp1 := a8p es (SetTable.below t.place j) (tupleKeyHash (intKind prog w) ks, Value.ref b)
  have hz1 := a8q es (SetTable.below t.place j) (tupleKeyHash (intKind prog w) ks, Value.ref b)
  have hrise := b3w hS.tab.rise (c2j hS.tab.rise hj)
  have hpz : (SetTable.insertAt t.place (SetTable.below t.place j) j).size = es.size + 1 := by erw [a8q, hsz]
  generalize hes1 : SetTable.insertAt es (SetTable.below t.place j) (tupleKeyHash (intKind prog w) ks, Value.ref b) = es1 at hp1 hz1
  generalize hpl : SetTable.insertAt t.place (SetTable.below t.place j) j = pl at hrise hpz
  refine wpAny_bind (c2o (s := { s with toks := s.toks + (ks.length + 1) }) hS.at_ (om101 hz1 h60) fun h1 hsb1 ho1 => ?_)
  have keyOld : ∀ {h2 : Heap}, Heap.SameBut a s.heap h2 -> ∀ {ks' : List Int} {b' : Addr}, b' < a -> TK prog w s.heap ks' b' -> TK prog w h2 ks' b' := fun {h2} hsb {ks' b'} hb x => x.same fun o e => (hsb.2 b' (Nat.ne_of_lt hb)).trans e
  have entNew : ∀ {h2 : Heap} {es2 : TEnt}, Heap.SameBut a s.heap h2 -> es2.toList.Perm es1.toList -> ∀ e ∈ es2.toList, ∃ ks' b', e = (tupleKeyHash (intKind prog w) ks', Value.ref b') /\ TK prog w h2 ks' b' /\ b' < a /\ PB b' := fun {h2 es2} hsb hpp e he => by
   rcases List.mem_cons.mp (hp1.mem_iff.mp (hpp.mem_iff.mp he)) with rfl | he
   ·exact ⟨ks, b, rfl, keyOld hsb hne hk, hne, hPB⟩
   ·refine a0u (hS.ent e he) fun ks' b' e1 e2 e3 => ?_
    exact ⟨ks', b', e1, keyOld hsb e3.1 e2, e3⟩
  have hasNew : ∀ {h2 : Heap} {es2 : TEnt}, Heap.SameBut a s.heap h2 -> es2.toList.Perm es1.toList -> ∀ ks', HasK prog w h2 es2 ks' ↔ HasK prog w s.heap es ks' ∨ ks' = ks := fun {h2 es2} hsb hpp ks' => by
   rw [HasK.perm hpp]
   constructor
   ·rintro ⟨e, he, b', e1, e2⟩
    rcases List.mem_cons.mp (hp1.mem_iff.mp he) with rfl | he
    ·cases e1
     exact .inr (e2.inj (keyOld hsb hne hk))
    ·refine a0u (hS.ent e he) fun ks'' b'' e3 e4 e5 => ?_
     rw [e3] at e1
     cases e1
     have := e2.inj (keyOld hsb e5.1 e4)
     subst this
     exact .inl ⟨e, he, b', by erw [e3], e4⟩
   ·rintro (⟨e, he, b', e1, e2⟩ | rfl)
    ·refine a0u (hS.ent e he) fun ks'' b'' e3 e4 e5 => ?_
     rw [e3] at e1
     cases e1
     exact ⟨e, hp1.mem_iff.mpr (List.mem_cons_of_mem _ he), b', by erw [e3], keyOld hsb e5.1 e2⟩
    ·exact ⟨_, hp1.mem_iff.mpr List.mem_cons_self, b, rfl, keyOld hsb hne hk⟩
  have hfull : ({ t with place := pl, plain := true } : SetTable).tooFull = decide ((es.size + 1) * 5 ≥ t.mask * 3) := c6g (t := { t with place := pl, plain := true }) hpz hS.tab.dummies
  erw [hfull]
  have stay : ¬ (es.size + 1) * 5 ≥ t.mask * 3 -> TSet PB prog w h1 a es1 (ep + 1) { t with place := pl, plain := true } := fun hn => by
   refine ⟨ho1, ⟨by erw [hz1]; exact hpz, hS.tab.dummies, hrise, ?_, hS.tab.led, rfl⟩, entNew hsb1 (List.Perm.refl _)⟩
   erw [hz1]
   show (t.mask = 7 /\ _) ∨ (t.mask = 31 /\ _) ∨ (t.mask = 127 /\ _)
   rcases hS.tab.mask with ⟨e, _⟩ | ⟨e, _⟩ | ⟨e, _⟩
   ·rw [e] at hn ⊢; exact .inl ⟨rfl, by exact om102 hn⟩
   ·rw [e] at hn ⊢; exact .inr (.inl ⟨rfl, by exact om103 hn⟩)
   ·rw [e] at hn ⊢; exact .inr (.inr ⟨rfl, by exact om104 h60⟩)
  have grow : ∀ {M : Nat}, SetTable.sizeAbove (SetTable.grown (es.size + 1)) = M + 1 -> M <= 127 -> a5v M = true -> es.size + 1 <= M -> ((M = 31 /\ es.size + 1 < 19) ∨ (M = 127 /\ es.size + 1 < 77)) ->
    wpAny (model prog w) A (do setRelay a (SetTable.grown (es.size + 1)); return true) Q E { s with heap := h1, toks := s.toks + (ks.length + 1) } := fun {M} g1 g2 g3 g4 g5 => by
   have hf1 : ({ t with place := pl, plain := true } : SetTable).fits es1.size = true := by
    simp only [SetTable.fits, SetTable.fill, Bool.and_eq_true, beq_iff_eq, decide_eq_true_eq, hS.tab.dummies]
    refine ⟨by erw [hpz, hz1], ?_⟩
    show pl.size + 0 <= t.mask
    rcases hS.tab.mask with ⟨e, _⟩ | ⟨e, _⟩ | ⟨e, _⟩ <;> omega
   refine wpAny_bind (d0i (s := { s with heap := h1, toks := s.toks + (ks.length + 1) }) ho1 hf1 g1 g2 g3 (by erw [hz1]; exact g4) (om101 hz1 h60) fun h2 es2 t2 hsb2 ho2 hp2 m1 m2 m3 m4 m5 m6 => ?_)
   refine wpAny_pure ?_
   have hsb : Heap.SameBut a s.heap h2 := hsb1.trans hsb2
   have hz2 : es2.size = es1.size := by have := hp2.length_eq; rw [Array.length_toList, Array.length_toList] at this; exact this
   refine h h2 _ es2 t2 true hsb ⟨ho2, ⟨by erw [m6, hz2], m2, m5, ?_, m3.trans hS.tab.led, m4⟩, entNew hsb hp2⟩ (om105 hz2 hz1) (hasNew hsb hp2)
   erw [hz2, hz1, m1]
   rcases g5 with ⟨e, g5⟩ | ⟨e, g5⟩
   ·exact .inr (.inl ⟨e, g5⟩)
   ·exact .inr (.inr ⟨e, g5⟩)
  by_cases hfu : (es.size + 1) * 5 ≥ t.mask * 3
  ·erw [decide_eq_true hfu]
   simp only [Bool.not_false, Bool.and_self, if_true]
   rcases hS.tab.mask with ⟨e, g⟩ | ⟨e, g⟩ | ⟨e, g⟩
   ·have e4 : es.size = 4 := by exact om106 hfu g e
    rw [e4] at grow ⊢
    exact grow grow5 (by decide) orb31 om107 (.inl ⟨rfl, by exact om108⟩)
   ·have e4 : es.size = 18 := by exact om109 hfu g e
    rw [e4] at grow ⊢
    exact grow grow19 (by decide) c7s om110 (.inr ⟨rfl, by exact om111⟩)
   ·omega
  ·erw [decide_eq_false hfu]
   simp only [Bool.not_false, Bool.and_false, Bool.false_eq_true, if_false]
   refine wpAny_pure ?_
   exact h h1 _ es1 _ true hsb1 (stay hfu) (om112 hz1) (hasNew hsb1 (List.Perm.refl _))
end
end Mine
end
section
namespace Mine
open PySem PyProof.Rows
section
variable {PB : Addr -> Prop} {prog : Program} {w : World} {A : Around} {R : Result -> Shared -> Prop} {I : Addr} {fp wr : List Addr} {G : Array GenState -> Array GenState -> Prop} {n : Nat} {P : Nat -> Value -> Prop} {St : Nat -> Shared -> Prop}
noncomputable def b7t (prog : Program) (w : World) (h : Heap) (es : TEnt) (key : Nat -> List Int) (i : Nat) : Prop := ∀ ks, HasK prog w h es ks ↔ ∃ j, j < i /\ key j = ks
theorem c2q (W : WalksS prog w A.in1 I fp wr G n P St) (hu : A.in1.units < cLine) (S : Addr) (hSf : S ∉ fp) (hwr : ∀ b, b < S -> b ∉ wr) (key : Nat -> List Int) (hn : n < 60) :
  ∀ (k i : Nat) (s : Shared) (ep : Nat) (es : TEnt) (t : SetTable), n - i = k -> i <= n -> St i s -> TSet PB prog w s.heap S es ep t -> b7t prog w s.heap es key i -> es.size <= i ->
   (∀ i v, i < n -> P i v -> ∃ b, v = .ref b /\ b < S /\ PB b /\ TK prog w s.heap (key i) b) ->
   (∀ s' ep' es' t', Moved (S :: wr) G s s' -> TSet PB prog w s'.heap S es' ep' t' -> b7t prog w s'.heap es' key n -> es'.size <= n -> R (.ok (.ret .none)) s') ->
   codeAny (model prog w) A (.builtin "set.update.loop" ⟨[.ref S, .ref I], []⟩) R s := by
 have hSw : S ∉ wr := fun h => hSf (W.sub _ h)
 have hsub : ∀ b ∈ wr, b ∈ S :: wr := fun b hb => List.mem_cons_of_mem _ hb
 have hkeep : ∀ {s s' : Shared}, Moved wr G s s' -> ∀ {ks : List Int} {b : Addr}, b < S -> TK prog w s.heap ks b -> TK prog w s'.heap ks b := fun {s s'} hm {ks b} hb x => x.same fun o e => hm.heap b o (hwr b hb) e
 have hS2 : ∀ {s s' : Shared} {es : TEnt} {ep : Nat} {t : SetTable}, TSet PB prog w s.heap S es ep t -> Moved wr G s s' -> TSet PB prog w s'.heap S es ep t := fun {s s' es ep t} hS hm => ⟨hm.heap S _ hSw hS.at_, hS.tab, fun e he => by
  refine a0u (hS.ent e he) fun ks b e1 e2 e3 => ?_
  exact ⟨ks, b, e1, hkeep hm e3.1 e2, e3⟩⟩
 have hK2 : ∀ {s s' : Shared} {es : TEnt} {ep : Nat} {t : SetTable}, TSet PB prog w s.heap S es ep t -> Moved wr G s s' -> ∀ ks, HasK prog w s'.heap es ks ↔ HasK prog w s.heap es ks := fun {s s' es ep t} hS hm ks => by
  constructor
  ·rintro ⟨e, he, b, e1, e2⟩
   refine a0u (hS.ent e he) fun ks' b' e3 e4 e5 => ?_
   rw [e3] at e1; cases e1
   have := e2.inj (hkeep hm e5.1 e4)
   subst this
   exact ⟨e, he, b, by erw [e3], e4⟩
  ·rintro ⟨e, he, b, e1, e2⟩
   refine a0u (hS.ent e he) fun ks' b' e3 e4 e5 => ?_
   rw [e3] at e1; cases e1
   exact ⟨e, he, b, by erw [e3], hkeep hm e5.1 e2⟩
 intro k
 induction k with
 | zero =>
  intro i s ep es t hk hi hst hS hKs hz hval hR
  have hin : i = n := by exact om113 hi hk
  subst hin
  refine codeAny_builtin F.entry_set_update_loop ?_
  erw [Around.under_plainId F.plain_set_update_loop _]
  show wpAny _ A.in1 (pyNext (.ref I) >>= _) _ _ s
  refine wpAny_bind (W.done s _ _ hst fun s' hm => ?_)
  show wpAny _ A.in1 (ret Value.none) _ _ s'
  exact wpAny_pure (hR s' ep es t (hm.mono hsub) (hS2 hS hm) (fun ks => (hK2 hS hm ks).trans (hKs ks)) hz)
 | succ k ih =>
  intro i s ep es t hk hi hst hS hKs hz hval hR
  have hlt : i < n := by exact om114 hk
  refine codeAny_builtin F.entry_set_update_loop ?_
  erw [Around.under_plainId F.plain_set_update_loop _]
  show wpAny _ A.in1 (pyNext (.ref I) >>= _) _ _ s
  refine wpAny_bind (W.item i s _ _ hlt hst fun v s' hP hst' hm => ?_)
  obtain ⟨b, rfl, hbS, hbP, hbk⟩ := hval i v hlt hP
  show wpAny _ A.in1 (holding [Value.ref b] (setAdd S (.ref b)) >>= _) _ _ s'
  refine wpAny_bind (wpAny_holding ?_)
  refine b8x (hS2 hS hm) hu (hkeep hm hbS hbk) hbS hbP (om115 hz hlt hn) fun h' ep' es' t' bb hsb hSn hzn hH => ?_
  refine wpAny_pure ⟨plainId_quiet F.plain_set_update_loop _, ih (i + 1) _ ep' es' t' (om116 hk) hlt (W.frame _ s' _ _ hst' (Nat.le_add_right _ _) fun b hb o e => ?_) hSn (fun ks => ?_) (om117 hzn hz) (fun j v hj hPj => ?_) fun s'' ep'' es'' t'' hm'' hS'' => ?_⟩
  ·erw [hsb.2 b (fun h : b = S => hSf (by erw [← h]; exact hb))]; exact e
  ·rw [hH ks, hK2 hS hm ks, hKs ks]
   constructor
   ·rintro (⟨j, hj, e⟩ | e)
    ·exact ⟨j, by exact om28 hj, e⟩
    ·exact ⟨i, by exact om118, e.symm⟩
   ·rintro ⟨j, hj, e⟩
    by_cases h : j = i
    ·subst h; exact .inr e.symm
    ·exact .inl ⟨j, by exact om119 hj h, e⟩
  ·refine b9l (hval j v hj hPj) fun b' e1 e2 e2P e3 => ?_
   exact ⟨b', e1, e2, e2P, (hkeep hm e2 e3).same fun o e => (hsb.2 b' (Nat.ne_of_lt e2)).trans e⟩
  ·refine hR s'' ep'' es'' t'' (Moved.trans W.gtrans ((hm.mono hsub).then_heap (Nat.le_add_right _ _) fun b o hb e => ?_) hm'') hS''
   erw [hsb.2 b (fun h : b = S => hb (by erw [h]; exact List.mem_cons_self))]; exact e
end
end Mine
end
section
namespace Mine
open PySem PyProof.Rows
section
variable {PB : Addr -> Prop} {prog : Program} {w : World} {A : Around} {E : Value -> Shared -> Prop} {s : Shared}
noncomputable def tab0 (w : World) : SetTable := .fresh 0 0 (c6b w)
theorem c6i (a : Value) {Q₁ : Value -> Shared -> Prop}
  (h : Q₁ (.ref s.heap.objs.size) { s with heap := s.heap.push (a4i #[] 0 (tab0 w)) }) :
  codeAny (model prog w) A (.call (.builtin "set.__new__") ⟨[.type "set", a], []⟩) (wants Q₁ E) s := by
 refine codeAny_of_tree ?_
 show wpAny _ A.in1 (do checkBuiltinCall "set.__new__" ⟨[.type "set", a], []⟩; again (.builtin "set.__new__" ⟨[.type "set", a], []⟩)) _ _ s
 refine wpAny_bind (wpAny_of_eq (F.newCall_set_1 a) (wpAny_pure ⟨plainId_quiet F.plain_set_new _, codeAny_builtin F.entry_set_new ?_⟩))
 erw [Around.under_plainId F.plain_set_new _]
 unfold Builtin.«set.__new__» Builtin.Frozenset.newClass
 have hsub := sub_set_self
 obtain ⟨hp, g, d, tk, os⟩ := s
 dsimp only
 wp_walk
 refine wpAny_askSetting (wpAny_pure ?_)
 dsimp only
 simp only [newObj]
 refine wpAny_bind (wpAny_alloc (wpAny_pure ?_))
 exact wpAny_pure h
set_option maxHeartbeats 3200000 in
theorem c2r {l : Addr} {items : Array Value} {key : Nat -> List Int} {Q : Value -> Shared -> Prop}
  (hh : A.handled = none) (hl : s.heap.IsList l items) (hu : A.units + 5 < cLine) (hi : ∀ i v, items[i]? = some v -> ∃ b, v = .ref b /\ PB b /\ TK prog w s.heap (key i) b) (h60 : items.size < 60)
  (h : ∀ (h' : Heap) (tk ep : Nat) (es : TEnt) (t : SetTable), TSet PB prog w h' s.heap.objs.size es ep t -> b7t prog w h' es key items.size -> es.size <= items.size ->
   (∀ b o, b < s.heap.objs.size -> s.heap.get? b = some o -> h'.get? b = some o) -> Q (.ref s.heap.objs.size) { s with heap := h', toks := tk }) :
  wpAny (model prog w) A (call (.type "set") [.ref l]) Q E s := by
 refine xEE F.called_set.mro fun c tl hmro => ?_
 have hmade := F.called_set.made
 have hsub := F.called_set.sub
 refine wpAny_call (codeAny_of_tree ?_)
 show wpAny _ _ (callAny (.type "set") _) _ _ _
 refine wpAny_pure ⟨Code.quiet_builtin _ (by decide +kernel), codeAny_builtin F.entry_type_call ?_⟩
 erw [Around.under_plain (weight_type_call_type "set" [.ref l] []) rfl]
 have h1 := F.called_set.notType
 have h2 := F.called_set.canCreate
 have hct := F.typeCall_set_1 (.ref l)
 repeat (any_goals (first | assumption | wp_step))
 refine codeAny_mono (c6i (.ref l) (E := E) (Q₁ := fun obj s₁ => obj = .ref s.heap.objs.size /\ s₁ = { s with heap := s.heap.push (a4i #[] 0 (tab0 w)) }) ⟨rfl, rfl⟩) fun r s₁ hr => ?_
 cases r with
 | error e => exact hr
 | ok fl =>
  cases fl with
  | ret obj =>
   obtain ⟨rfl, rfl⟩ := hr
   have hS : (s.heap.push (a4i #[] 0 (tab0 w))).get? s.heap.objs.size = some (a4i #[] 0 (tab0 w)) := Heap.get?_push_size _ rfl
   have hT : Shared.TypeIs { s with heap := s.heap.push (a4i #[] 0 (tab0 w)) } (.ref s.heap.objs.size) "set" := ⟨_, hS, rfl⟩
   have hli := F.called_set.init.lookup
   have hbi := F.called_set.init.bind (.ref s.heap.objs.size)
   repeat (any_goals (first | assumption | wp_step))
   refine codeAny_mono (codeAny_call_builtin (R := wants (fun r s₂ => r = .none /\ ∃ h' tk ep es t, s₂ = { s with heap := h', toks := tk } /\
     TSet PB prog w h' s.heap.objs.size es ep t /\ b7t prog w h' es key items.size /\ es.size <= items.size /\
     (∀ b o, b < s.heap.objs.size -> s.heap.get? b = some o -> h'.get? b = some o)) E) F.called_set.init.plain F.entry_set_init (check_set_init_1 hT ?_)) fun r₂ s₂ hr2 => ?_
   ·obtain ⟨ol, hol, hcl, nl, hdl⟩ := hl
    obtain ⟨ocls, odict, odata, oslots⟩ := ol
    simp only at hcl hdl
    subst hcl; subst hdl
    have hol' : (s.heap.push (a4i #[] 0 (tab0 w))).get? l = some { cls := .type "list", dict := odict, data := .seq items nl, slots := oslots } := Heap.get?_push_of_some _ hol
    have hsls := F.sub_list_set
    have hslf := F.sub_list_frozenset
    have hne : (Value.type "list" == Value.type "dict") = false := by decide
    have hl1 : (s.heap.push (a4i #[] 0 (tab0 w))).IsList l items := ⟨_, hol', rfl, nl, rfl⟩
    unfold Builtin.«set.__init__» noKeywords Builtin.Frozenset.updateFrom
    generalize hPI : pyIter = PI
    wp_walk
    subst hPI
    refine wpAny_pyIter_list hl1 ?_
    refine wpAny_bind (wpAny_runValue ?_)
    have hlS : l < s.heap.objs.size := Heap.lt_size hol
    have hh3 : A.in1.in1.in1.handled = none := by simp [hh]
    have hneI : l ≠ (s.heap.push (a4i #[] 0 (tab0 w))).objs.size := by
     erw [Heap.size_push]; exact Nat.ne_of_lt (Nat.lt_succ_of_lt hlS)
    have hSf : s.heap.objs.size ∉ [(s.heap.push (a4i #[] 0 (tab0 w))).objs.size, l] := by
     erw [Heap.size_push]; simp only [List.mem_cons, List.mem_singleton, List.not_mem_nil, or_false, not_or]
     exact ⟨Nat.ne_of_lt (Nat.lt_succ_self _), Nat.ne_of_gt hlS⟩
    refine c2q (PB := PB) ((Walks.list hh3 _ l hneI items).toS) ?hU s.heap.objs.size
     hSf (fun b hb => by
      erw [Heap.size_push]
      simp only [List.mem_singleton]
      exact Nat.ne_of_lt (Nat.lt_succ_of_lt hb)) key h60 (items.size - 0) 0 _ 0 #[] (tab0 w) om120 (Nat.zero_le _)
     ⟨⟨_, Heap.get?_push_size _ rfl, rfl, rfl⟩, (hl1.push _)⟩ ?hS0 ?hK0 (Nat.le_refl _) ?hV ?hR
    case hU => simp only [Around.in1]; exact om121 hu
    case hV =>
     intro i v hlt hv
     refine xEAA (hi i v hv) fun b e1 eP e2 => ?_
     have hb : b < s.heap.objs.size := by obtain ⟨o, _, _, ho, _⟩ := e2; exact Heap.lt_size ho
     exact ⟨b, e1, hb, eP, e2.same fun o e => Heap.get?_push_of_some _ (Heap.get?_push_of_some _ e)⟩
    case hS0 =>
     refine ⟨Heap.get?_push_of_some _ hS, ?_, fun e he => by simp at he⟩
     exact ⟨rfl, rfl, List.Pairwise.nil, .inl ⟨rfl, by show 0 < 5; decide⟩, rfl, rfl⟩
    case hK0 =>
     intro ks
     constructor
     ·rintro ⟨e, he, _⟩; simp at he
     ·rintro ⟨j, hj, _⟩; exact absurd hj (Nat.not_lt_zero _)
    case hR =>
     intro s' ep' es' t' hm hS' hK' hz'
     obtain ⟨h', g', d', tk', os'⟩ := s'
     have eg : g' = s.gens := hm.gens
     have ed : d' = s.drawn := hm.drawn
     have eo : os' = s.os := hm.os
     subst eg; subst ed; subst eo
     show wpAny _ _ _ _ _ _
     refine wpAny_pure ?_
     show wpAny _ _ (ret Value.none) _ _ _
     refine wpAny_pure ⟨rfl, h', tk', ep', es', t', rfl, hS', hK', hz', fun b o hb e => ?_⟩
     have hb1 : b ≠ s.heap.objs.size := Nat.ne_of_lt hb
     have hb2 : b ≠ (s.heap.push (a4i #[] 0 (tab0 w))).objs.size := by
      erw [Heap.size_push]; exact Nat.ne_of_lt (Nat.lt_succ_of_lt hb)
     exact hm.heap b o (by simp only [List.mem_cons, List.mem_singleton, List.not_mem_nil, or_false, not_or]; exact ⟨hb1, hb2⟩) (Heap.get?_push_of_some _ (Heap.get?_push_of_some _ e))
   ·cases r₂ with
    | error e => exact hr2
    | ok fl2 =>
     cases fl2 with
     | ret r =>
      obtain ⟨rfl, h', tk, ep, es, t, rfl, hS', hK', hz', hk'⟩ := hr2
      repeat (any_goals (first | assumption | wp_step))
      exact h _ _ _ _ _ hS' hK' hz' hk'
     | _ => exact hr2.elim
  | _ => exact hr.elim
end
end Mine
end
section
namespace Mine
open PySem PyProof.Rows
section
variable {prog : Program} {w : World} {A : Around} {E : Value -> Shared -> Prop} {s : Shared}
structure SetT (w : World) (h : Heap) (a : Addr) (es : TEnt) (ep : Nat) (t : SetTable) : Prop where
 at_ : h.get? a = some (a4i es ep t)
 tab : TabOk t es.size (c6b w)
theorem SetT.state {a : Addr} {es : TEnt} {ep : Nat} {t : SetTable} (h : SetT w s.heap a es ep t) {Q : (TEnt × Nat × SetTable) -> Shared -> Prop} (q : Q (es, ep, t) s) : wpAny (model prog w) A (setState a) Q E s :=
 wpAny_setState_of h.at_ rfl h.tab.fits q
theorem SetT.same {h h' : Heap} {a : Addr} {es : TEnt} {ep : Nat} {t : SetTable} (x : SetT w h a es ep t) (e : ∀ o, h.get? a = some o -> h'.get? a = some o) : SetT w h' a es ep t := ⟨e _ x.at_, x.tab⟩
theorem TabOk.undrawn {t : SetTable} {n m : Nat} {led : Bool} (h : TabOk t n led) : ¬ (!t.plain && decide (m > 1)) = true := by erw [h.plain]; intro h; exact dFT h
noncomputable def b3x (t : SetTable) : Nat -> Nat
 | 0 => 0
 | i + 1 => t.place.getD i 0 + 1
theorem d0j {t : SetTable} (h : a3p t.place) {i : Nat} (hi : i <= t.place.size) : SetTable.below t.place (b3x t i) = i := by
 refine (a8m h _).unique ⟨hi, fun k hk => ?_, fun k hk1 hk2 => ?_⟩
 ·cases i with
  | zero => exact absurd hk (Nat.not_lt_zero _)
  | succ i =>
   show t.place.getD k (t.place.getD i 0 + 1) < t.place.getD i 0 + 1
   have hk3 : k < t.place.size := by exact om122 hk hi
   have e : t.place.getD k (t.place.getD i 0 + 1) = t.place.getD k 0 := by simp [Array.getD, hk3]
   erw [e]
   by_cases hki : k = i
   ·subst hki; exact om118
   ·have := a8l h (j := 0) (a := k) (b := i) (om119 hk hki) (om92 hi); exact om28 this
 ·cases i with
  | zero => exact Nat.zero_le _
  | succ i =>
   show t.place.getD i 0 + 1 <= t.place.getD k (t.place.getD i 0 + 1)
   have e : t.place.getD k (t.place.getD i 0 + 1) = t.place.getD k 0 := by simp [Array.getD, hk2]
   erw [e]
   have := a8l h (j := 0) (a := i) (b := k) (om92 hk1) hk2; exact om4 this
noncomputable def a7l (a : Addr) (t : SetTable) (i n ep : Nat) (byText : Bool) : Obj := { cls := .type "set_iterator", data := .fields #[.int ((if byText then 0 else b3x t i : Nat) : Int) 0, .int (i : Int) 0, .ref a, .int (n : Int) 0, .int (ep : Int) 0] }
noncomputable def a1w (w : World) (h : Heap) (I a : Addr) (t : SetTable) (i n ep : Nat) : Prop := h.get? I = some (a7l a t i n ep (w.params.followText "set-order"))
theorem b5n {a : Addr} {t : SetTable} {ep : Nat} {es : TEnt} (hS : SetT w s.heap a es ep t) {Q : Value -> Shared -> Prop}
  (hQ : Q (.ref s.heap.objs.size) { s with heap := s.heap.push (a7l a t 0 es.size ep (w.params.followText "set-order")) }) : wpAny (model prog w) A (pyIter (.ref a)) Q E s := by
 have hT : s.TypeIs (.ref a) "set" := ⟨_, hS.at_, rfl⟩
 refine wpAny_pyIter_slot hT F.slot_set_iter (wpAny_call_entry F.slot_set_iter hT a9f ?_ (F.args_set_iter_1 _))
 unfold Builtin.«frozenset.__iter__» Builtin.Frozenset.slot0 slotArgs
 simp only [List.isEmpty_nil, Bool.not_true, Bool.false_eq_true, ↓reduceIte, bind_assoc, List.length_nil, bne_self_eq_false]
 unfold Builtin.Frozenset.addrOf Builtin.Frozenset.sizeOf
 refine wpAny_bind (wpAny_pure ?_)
 dsimp only
 refine wpAny_bind (wpAny_pure ?_)
 refine wpAny_bind (wpAny_bind (wpAny_setEntries_of hS.at_ rfl hS.tab.fits (wpAny_pure ?_)))
 unfold setDrawn setsByText
 refine wpAny_bind (wpAny_bind (hS.state ?_))
 dsimp only
 refine wpAny_bind (wpAny_bind (wpAny_askSetting (wpAny_pure (wpAny_pure ?_))))
 refine wpAny_ite_split (fun h => (hS.tab.undrawn (show (!t.plain && decide (es.size > 1)) = true from (Bool.and_eq_true_iff.mp h).2)).elim) (fun ζ => ?_)
 refine wpAny_bind (wpAny_pure ?_)
 refine wpAny_bind (wpAny_setEpoch_of hS.at_ rfl hS.tab.fits ?_)
 refine wpAny_bind ?_
 refine wpAny_newObj_type (wpAny_pure ⟨_, rfl, "set_iterator", _, ⟨_, Heap.get?_push_size _ rfl, rfl⟩, si_slot_next.lookup, ?_⟩)
 have e : (if w.params.followText "set-order" = true then 0 else b3x t 0) = 0 := by split <;> rfl
 unfold a7l at hQ
 rw [e] at hQ
 exact hQ
noncomputable def a6w (w : World) (t : SetTable) (i : Nat) : Nat := if w.params.followText "set-order" then 0 else b3x t i
theorem a8s {a : Addr} {t : SetTable} {i ep : Nat} {es : TEnt} (hS : SetT w s.heap a es ep t) (hi : i <= es.size) {Q : Option (Value × Nat) -> Shared -> Prop}
  (q : Q ((ordN w a ep es)[i]?.map fun e => (e.2, a6w w t (i + 1))) s) : wpAny (model prog w) A (setNext a (a6w w t i) i ep) Q E s := by
 unfold setNext setsByText
 refine wpAny_bind (hS.state ?_)
 dsimp only
 refine wpAny_bind (wpAny_bind (wpAny_askSetting (wpAny_pure ?_)))
 show wpAny _ _ (if w.params.followText "set-order" = true then _ else _) _ _ _
 cases hb : w.params.followText "set-order" with
 | true =>
  rw [if_pos rfl, if_neg (by simp)]
  unfold setWalk setsByText
  refine wpAny_bind (wpAny_bind (hS.state ?_))
  dsimp only
  refine wpAny_bind (wpAny_bind (wpAny_askSetting (wpAny_pure ?_)))
  show wpAny _ _ (if w.params.followText "set-order" = true then _ else _) _ _ _
  erw [if_pos hb]
  refine wpAny_bind (wpAny_askSetting (wpAny_pure (wpAny_pure ?_)))
  have e1 : ordN w a ep es = pickOrder (w.params.setOrder a ep) es := by unfold ordN; erw [if_pos hb]
  have e2 : ∀ j, a6w w t j = 0 := fun j => by unfold a6w; erw [if_pos hb]
  rw [e1, e2] at q
  erw [e2]
  exact q
 | false =>
  rw [if_neg (by simp)]
  refine wpAny_ite_split (fun h => (hS.tab.undrawn (show (!t.plain && decide (es.size > 1)) = true from h)).elim) (fun ζ => ?_)
  refine wpAny_bind (wpAny_ite_split (fun h => ?_) (fun ζ => wpAny_pure (wpAny_pure ?_)))
  ·exfalso
   have h1 : (!t.led && !es.isEmpty) = true := h
   have h2 : t.led = true := by erw [hS.tab.led]; unfold c6b; erw [hb]; rfl
   rw [h2] at h1; exact dFT h1
  have e1 : ordN w a ep es = es := by unfold ordN; rw [if_neg (by simp [hb])]
  have e2 : ∀ j, a6w w t j = b3x t j := fun j => by unfold a6w; rw [if_neg (by simp [hb])]
  rw [e1, e2] at q
  erw [e2]
  have hsz := hS.tab.size
  have e3 : SetTable.below t.place (b3x t i) = i := d0j hS.tab.rise (om123 hi hsz)
  erw [e3]
  by_cases hlt : i < es.size
  ·have hlS : i < t.place.size := by exact om124 hlt hsz
   rw [Array.getElem?_eq_getElem hlt] at q ⊢
   erw [Array.getElem?_eq_getElem hlS]
   have : b3x t (i + 1) = t.place[i] + 1 := by simp [b3x, Array.getD, hlS]
   rw [this] at q
   exact q
  ·rw [Array.getElem?_eq_none (om55 hlt)] at q ⊢
   exact q
theorem b1s (a : Addr) (t : SetTable) (i n ep : Nat) : a7l a t i n ep (w.params.followText "set-order") = { cls := .type "set_iterator", data := .fields #[.int (a6w w t i : Int) 0, .int (i : Int) 0, .ref a, .int (n : Int) 0, .int (ep : Int) 0] } := rfl
theorem b8y {I a : Addr} {t : SetTable} {i ep : Nat} {es : TEnt} {e : Int × Value} (hI : a1w w s.heap I a t i es.size ep) (hS : SetT w s.heap a es ep t) (hx : (ordN w a ep es)[i]? = some e) {Q : Option Value -> Shared -> Prop}
  (hQ : ∀ h', a1w w h' I a t (i + 1) es.size ep -> Heap.SameBut I s.heap h' -> Q (some e.2) { s with heap := h' }) : wpAny (model prog w) A (pyNext (.ref I)) Q E s := by
 have hsz : (ordN w a ep es).size = es.size := by have := (a5s w a ep es).length_eq; simpa using this
 have hi : i < es.size := by erw [← hsz]; exact (Array.getElem?_eq_some_iff.mp hx).1
 have hfit := hS.tab.fits
 unfold a1w at hI
 rw [b1s] at hI
 have hT : s.TypeIs (.ref I) "set_iterator" := ⟨_, hI, rfl⟩
 unfold pyNext
 refine wpAny_bind (wpAny_attempt (wpAny_callSpecial?_slot (name := Str.ofString "__next__") hT si_slot_next
  (wpAny_call_entry si_slot_next hT a5r ?_ (a6s _))))
 unfold Builtin.«set_iterator.__next__»
 erw [a9z]
 refine wpAny_bind (wpAny_pure ?_)
 refine wpAny_bind (wpAny_fieldsOf hI rfl ?_)
 dsimp only
 refine wpAny_bind (wpAny_setEntries_of hS.at_ rfl hfit ?_)
 rw [if_neg (by simp)]
 refine wpAny_bind ?_
 refine a8s hS (Nat.le_of_lt hi) ?_
 erw [hx]
 dsimp only [Option.map_some]
 refine wpAny_bind (wpAny_setField hI rfl (by simp) ?_)
 have h1 := Heap.get?_update_self (Obj.mapFields (·.setIfInBounds 0 (rawInt (a6w w t (i + 1) : Int)))) hI (Obj.isFreed_of_fields (Obj.data_mapFields rfl _))
 refine wpAny_bind (wpAny_setField h1 (Obj.data_mapFields rfl _) (by simp) ?_)
 have h2 := Heap.get?_update_self (Obj.mapFields (·.setIfInBounds 1 (rawInt ((i : Int) + 1)))) h1 (Obj.isFreed_of_fields (Obj.data_mapFields (Obj.data_mapFields rfl _) _))
 refine wpAny_pure ⟨_, rfl, wpAny_pure (hQ _ ?_ ((Heap.SameBut.update ..).trans (Heap.SameBut.update ..)))⟩
 unfold a1w
 erw [h2, b1s]
 rfl
theorem c2s {I a : Addr} {t : SetTable} {ep : Nat} {es : TEnt} (hh : A.handled = none) (hI : a1w w s.heap I a t es.size es.size ep) (hS : SetT w s.heap a es ep t) {Q : Option Value -> Shared -> Prop}
  (hQ : ∀ h', Heap.ExtBut I s.heap h' -> Q none { s with heap := h' }) : wpAny (model prog w) A (pyNext (.ref I)) Q E s := by
 have hsz : (ordN w a ep es).size = es.size := by have := (a5s w a ep es).length_eq; simpa using this
 have hfit := hS.tab.fits
 unfold a1w at hI
 rw [b1s] at hI
 have hT : s.TypeIs (.ref I) "set_iterator" := ⟨_, hI, rfl⟩
 unfold pyNext
 refine wpAny_bind (wpAny_attempt (wpAny_callSpecial?_slot (name := Str.ofString "__next__") hT si_slot_next
  (wpAny_call_entry si_slot_next hT a5r ?_ (a6s _))))
 unfold Builtin.«set_iterator.__next__»
 erw [a9z]
 refine wpAny_bind (wpAny_pure ?_)
 refine wpAny_bind (wpAny_fieldsOf hI rfl ?_)
 dsimp only
 refine wpAny_bind (wpAny_setEntries_of hS.at_ rfl hfit ?_)
 rw [if_neg (by simp)]
 refine wpAny_bind ?_
 refine a8s hS (Nat.le_refl _) ?_
 rw [Array.getElem?_eq_none (om125 hsz)]
 dsimp only [Option.map_none]
 refine wpAny_bind (wpAny_setField hI rfl (by simp) ?_)
 show wpAny _ _ (newExc (.type "StopIteration") [] >>= _) _ _ _
 refine wpAny_bind ?_
 simp only [newExc, newTuple]
 refine wpAny_bind (wpAny_newObj_type ?_ (by size_fits))
 refine wpAny_bind (m := firstArgMember _ _) (wpAny_of_eq (a := Value.none) (by first | rfl | (simp only [firstArgMember]; rfl)) ?_)
 refine wpAny_newObj_type ?_ (by size_fits)
 simp only [raiseNew]
 refine wpAny_bind (wpAny_handled ?_)
 erw [show A.in1.handled = none from hh]
 refine wpAny_bind (wpAny_pure (wpAny_throw ?_))
 refine wpAny_bind (wpAny_isInstance (T := "StopIteration") (b := true) ⟨_, Heap.get?_push_size _ rfl, rfl⟩ isSubtype_stop ?_)
 exact wpAny_pure (hQ _ (((Heap.SameBut.update ..).extBut.push _).push _))
theorem b8z (hh : A.handled = none) (I a : Addr) (hne : a ≠ I) (t : SetTable) (ep : Nat) (es : TEnt) :
  Walks prog w A I [I, a] [I] es.size (fun i v => ∃ e, (ordN w a ep es)[i]? = some e /\ v = e.2) (fun i h => a1w w h I a t i es.size ep /\ SetT w h a es ep t) where
 sub := fun b hb => by simp at hb; simp [hb]
 frame := fun ζ ζ ζ st hk => ⟨hk I (by simp) _ st.1, st.2.same fun o e => hk a (by simp) o e⟩
 item := fun i s Q E hi st hQ => by
  have hsz : (ordN w a ep es).size = es.size := by have := (a5s w a ep es).length_eq; simpa using this
  have hlt : i < (ordN w a ep es).size := by exact om124 hi hsz
  refine b8y st.1 st.2 (Array.getElem?_eq_getElem hlt) fun h' hit' hs' => ?_
  exact hQ _ h' s.toks ⟨_, Array.getElem?_eq_getElem hlt, rfl⟩ ⟨hit', st.2.same fun o e => hs'.extBut a o hne e⟩ fun b o hb e => hs'.extBut b o (fun h => hb (by simp [h])) e
 done := fun s Q E st hQ => c2s hh st.1 st.2 fun h' he' => hQ h' s.toks fun b o hb e => he' b o (fun h => hb (by simp [h])) e
 self := fun i s Q E st hQ => by
  have hT : s.TypeIs (.ref I) "set_iterator" := ⟨_, st.1, rfl⟩
  refine wpAny_pyIter_slot hT a6t (wpAny_call_entry a6t hT b1l ?_ (b3m _))
  show wpAny _ _ (ret (.ref I)) _ _ s
  exact wpAny_pure ⟨_, rfl, "set_iterator", _, hT, si_slot_next.lookup, hQ⟩
end
end Mine
end
section
namespace Mine
open PySem PyProof.Rows
structure SB9 (κ : SortKind) (a0 : Array Keyed) (st : SortSt) : Prop where
 perm : (arrOf st).Perm a0
 kind : kindOf st = κ
 failed : failedOf st = none
 pend : pendingOf st = #[]
theorem SB9.size {κ : SortKind} {a0 : Array Keyed} {st : SortSt} (h : SB9 κ a0 st) : (arrOf st).size = a0.size := h.perm.size_eq
theorem SB9.set {κ : SortKind} {a0 : Array Keyed} {st : SortSt} (h : SB9 κ a0 st) {xs : Array Keyed} (hp : xs.Perm (arrOf st)) : SB9 κ a0 (setArr st xs) := ⟨hp.trans h.perm, h.kind, h.failed, h.pend⟩
section
variable {prog : Program} {w : World} {A : Around} {E : Value -> Shared -> Prop} {s : Shared} {a0 : Array Keyed} {κ : SortKind}
noncomputable def Cmp9 (prog : Program) (w : World) (A : Around) (s : Shared) (a0 : Array Keyed) (κ : SortKind) : Prop := ∀ x ∈ a0.toList, ∀ y ∈ a0.toList, ∀ (E : Value -> Shared -> Prop) (Q : Bool -> Shared -> Prop), (∀ b, Q b s) -> wpAny (model prog w) A (keyLt' κ x.1 y.1) Q E s
theorem SB9.at_ {st : SortSt} (h : SB9 κ a0 st) {i : Nat} (hi : i < a0.size) : ∃ x ∈ a0.toList, (arrOf st)[i]? = some x := by
 have hi' : i < (arrOf st).size := by erw [h.size]; exact hi
 exact ⟨(arrOf st)[i], (Array.perm_iff_toList_perm.mp h.perm).mem_iff.mp (by simp), getElem?_pos _ i hi'⟩
theorem lt9 (hC : Cmp9 prog w A s a0 κ) {st : SortSt} {i j : Nat} {Q : Option Bool -> SortSt -> Prop} (hB : SB9 κ a0 st) (hi : i < a0.size) (hj : j < a0.size) (h : ∀ c, Q (some c) st) : wpS (model prog w) A E s (ltAt' i j) Q st := by
 refine xEA (hB.at_ hi) fun x hx e1 => ?_
 refine xEA (hB.at_ hj) fun y hy e2 => ?_
 erw [ltAt'_eq]
 refine wpS_bind (wpS_get ?_)
 show wpS _ _ _ _ (do let x ← elem' (arrOf st) i; let y ← elem' (arrOf st) j; lt' x y) Q st
 erw [elem'_eq, elem'_eq, e1, e2]
 refine wpS_bind (wpS_pure (wpS_bind (wpS_pure ?_)))
 erw [lt'_eq]
 refine wpS_bind (wpS_get ?_)
 erw [hB.kind]
 refine wpS_bind (wpS_lift (wpAny_attempt (hC x hx y hy _ _ fun c => ⟨rfl, ?_⟩)))
 exact wpS_pure (h c)
theorem asc9 (hC : Cmp9 prog w A s a0 κ) {st : SortSt} {a nrem : Nat} {Q : AscSt -> SortSt -> Prop} (hn : nrem <= a0.size) (ha : 1 <= a) (han : a <= nrem) (hB : SB9 κ a0 st) (h : ∀ n, a <= n -> n <= nrem -> Q (none, n) st) : wpS (model prog w) A E s (ascLoop a nrem) Q st := by
 unfold ascLoop
 refine wpS_forRange (I := fun x c st' => st' = st /\ c = (none, x)) ?step ?fin ⟨rfl, rfl⟩
 case fin =>
  rintro c st' ⟨rfl, rfl⟩
  erw [Nat.max_eq_right han]
  exact h nrem han (Nat.le_refl _)
 case step =>
  rintro x c st' hax hxn ⟨rfl, rfl⟩
  dsimp only
  refine wpS_bind (lt9 hC hB (Nat.lt_of_lt_of_le hxn hn) (Nat.lt_of_le_of_lt (Nat.sub_le _ _) (Nat.lt_of_lt_of_le hxn hn)) fun c => ?_)
  cases c with
  | true => exact wpS_pure (h x hax (Nat.le_of_lt hxn))
  | false => exact wpS_pure ⟨rfl, rfl⟩
theorem tail9 (hC : Cmp9 prog w A s a0 κ) {st : SortSt} {n nrem : Nat} {Q : Option Nat -> SortSt -> Prop} (hn : nrem <= a0.size) (h1 : 1 <= n) (hnn : n <= nrem) (hB : SB9 κ a0 st) (h : ∀ m st', SB9 κ a0 st' -> 1 <= m -> m <= nrem -> Q (some m) st') : wpS (model prog w) A E s (tail3 n nrem) Q st := by
 unfold tail3
 refine wpS_bind (wpS_reverse ?_)
 have hB' : SB9 κ a0 (setArr st (mirror (arrOf st) 0 n ((n - 0) / 2))) := hB.set (mirror_perm _ _ _ _)
 exact wpS_bind (asc9 hC hn h1 hnn hB' fun m hm1 hm2 => wpS_pure (h m _ hB' (Nat.le_trans h1 hm1) hm2))
theorem desc9 (hC : Cmp9 prog w A s a0 κ) {st : SortSt} {n nrem : Nat} {Q : DescSt -> SortSt -> Prop} (hn : nrem <= a0.size) (h1 : 1 <= n) (hnn : n <= nrem) (hB : SB9 κ a0 st) (h : ∀ m neq st', SB9 κ a0 st' -> n <= m -> m <= nrem -> Q (none, m, neq) st') : wpS (model prog w) A E s (descLoop n nrem) Q st := by
 unfold descLoop
 refine wpS_forRange (I := fun x c st' => ∃ neq, c = (none, x, neq) /\ SB9 κ a0 st') ?step ?fin ⟨0, rfl, hB⟩
 case fin =>
  rintro c st' ⟨neq, rfl, hB'⟩
  erw [Nat.max_eq_right hnn]
  exact h nrem neq st' hB' hnn (Nat.le_refl _)
 case step =>
  rintro x c st' hax hxn ⟨neq, rfl, hB'⟩
  dsimp only
  have l1 := Nat.lt_of_lt_of_le hxn hn
  have l2 := Nat.lt_of_le_of_lt (Nat.sub_le x 1) l1
  refine wpS_bind (lt9 hC hB' l1 l2 fun c => ?_)
  cases c with
  | true =>
   show wpS _ _ _ _ (if neq > 0 then _ else _) _ _
   by_cases hq : neq > 0
   ·erw [if_pos hq]
    exact wpS_bind (wpS_reverse (wpS_pure ⟨0, rfl, hB'.set (mirror_perm _ _ _ _)⟩))
   ·erw [if_neg hq]
    exact wpS_pure ⟨0, rfl, hB'⟩
  | false =>
   refine wpS_bind (lt9 hC hB' l2 l1 fun d => ?_)
   cases d with
   | true => exact wpS_pure (h x neq st' hB' hax (Nat.le_of_lt hxn))
   | false => exact wpS_pure ⟨neq + 1, rfl, hB'⟩
theorem part9 (hC : Cmp9 prog w A s a0 κ) {st : SortSt} {n nrem : Nat} {Q : Option Nat -> SortSt -> Prop} (hn : nrem <= a0.size) (hnn : n + 1 <= nrem) (hB : SB9 κ a0 st) (h : ∀ m st', SB9 κ a0 st' -> 1 <= m -> m <= nrem -> Q (some m) st') : wpS (model prog w) A E s (descPart n nrem) Q st := by
 unfold descPart
 refine wpS_bind (wpS_lift (wpAny_rule ⟨rfl, ?_⟩))
 refine wpS_bind (desc9 hC hn (Nat.le_add_left 1 n) hnn hB fun m neq st' hB' hm1 hm2 => ?_)
 dsimp only
 have h1 := Nat.le_trans (Nat.le_add_left 1 n) hm1
 by_cases hq : neq > 0
 ·erw [if_pos hq]
  exact wpS_bind (wpS_reverse (tail9 hC hn h1 hm2 (hB'.set (mirror_perm _ _ _ _)) h))
 ·erw [if_neg hq]
  exact tail9 hC hn h1 hm2 hB' h
theorem count9 (hC : Cmp9 prog w A s a0 κ) {st : SortSt} {nrem : Nat} {Q : Option Nat -> SortSt -> Prop} (hn : nrem <= a0.size) (h1 : 1 <= nrem) (hB : SB9 κ a0 st) (h : ∀ m st', SB9 κ a0 st' -> 1 <= m -> m <= nrem -> Q (some m) st') : wpS (model prog w) A E s (countRun' 0 nrem) Q st := by
 erw [countRun0_eq]
 refine wpS_bind (asc9 hC hn (Nat.le_refl 1) h1 hB fun n hn1 hn2 => ?_)
 dsimp only
 by_cases hnn : n = nrem
 ·rw [if_pos (by simpa using hnn)]
  exact wpS_pure (h n st hB hn1 hn2)
 ·rw [if_neg (by simpa using hnn)]
  have hlt : n + 1 <= nrem := Nat.lt_of_le_of_ne hn2 hnn
  by_cases hgt : n > 1
  ·erw [if_pos hgt]
   refine wpS_bind (lt9 hC hB (Nat.lt_of_lt_of_le h1 hn) (Nat.lt_of_le_of_lt (Nat.sub_le n 1) (Nat.lt_of_lt_of_le hlt hn)) fun c => ?_)
   cases c with
   | true => exact wpS_pure (h n st hB hn1 hn2)
   | false => exact wpS_bind (wpS_reverse (part9 hC hn hlt (hB.set (mirror_perm _ _ _ _)) h))
  ·erw [if_neg hgt]
   exact part9 hC hn hlt hB h
theorem bin9 (hC : Cmp9 prog w A s a0 κ) {st : SortSt} {n ok : Nat} {Q : Bool -> SortSt -> Prop} (hn : n <= a0.size) (hB : SB9 κ a0 st) (h : ∀ st', SB9 κ a0 st' -> Q true st') : wpS (model prog w) A E s (binarySort' 0 n ok) Q st := by
 erw [binarySort'_eq]
 simp only [Nat.zero_add]
 refine wpS_bind (wpS_mono (wpS_forRange (I := fun k c st' => c = (none, ()) /\ SB9 κ a0 st') (Q := fun c st' => c = (none, ()) /\ SB9 κ a0 st') ?step ?fin ⟨rfl, hB⟩) ?post)
 case post =>
  rintro c st' ⟨rfl, hB'⟩
  exact wpS_pure (h st' hB')
 case fin => exact fun c st' hh => hh
 case step =>
  rintro k c st' hak hkn ⟨rfl, hB'⟩
  have hk : k < a0.size := Nat.lt_of_lt_of_le hkn hn
  refine wpS_bind (wpS_mono (wpS_forRange (I := fun x c st'' => st'' = st' /\ ∃ l r, c = (none, l, r) /\ r <= k) (Q := fun c st'' => st'' = st' /\ ∃ l r, c = (none, l, r)) ?istep ?ifin ⟨rfl, 0, k, rfl, Nat.le_refl k⟩) ?ipost)
  case ifin =>
   rintro c st'' ⟨rfl, l, r, rfl, _⟩
   exact ⟨rfl, l, r, rfl⟩
  case istep =>
   rintro x c st'' _ hxk ⟨rfl, l, r, rfl, hrk⟩
   dsimp only
   by_cases hge : l ≥ r
   ·erw [if_pos hge]
    exact wpS_pure ⟨rfl, l, r, rfl⟩
   ·erw [if_neg hge]
    have hm : (l + r) / 2 <= k := by exact om126 hrk hge
    refine wpS_bind (lt9 hC hB' hk (Nat.lt_of_le_of_lt hm hk) fun c => ?_)
    cases c with
    | true => exact wpS_pure ⟨rfl, l, (l + r) / 2, rfl, hm⟩
    | false => exact wpS_pure ⟨rfl, (l + r) / 2 + 1, r, rfl, hrk⟩
  case ipost =>
   rintro c st'' ⟨rfl, l, r, rfl⟩
   show wpS _ _ _ _ (do moveDown' k l; pure (ForInStep.yield (none, ()))) _ _
   erw [moveDown'_eq]
   exact wpS_bind (wpS_modify (wpS_pure ⟨rfl, hB'.set (bubble_perm _ _ _)⟩))
theorem runs9 (hC : Cmp9 prog w A s a0 κ) {st : SortSt} {Q : Unit -> SortSt -> Prop} (hB : SB9 κ a0 st) (h2 : 2 <= a0.size) (h64 : a0.size < 64) (h : ∀ st', (arrOf st').Perm a0 -> failedOf st' = none -> Q () st') : wpS (model prog w) A E s sortRuns' Q st := by
 erw [sortRuns'_eq]
 refine wpS_bind (wpS_get ?_)
 dsimp only
 have hmr : minRun' a0.size a0.size 0 = a0.size := by
  obtain ⟨f, hf⟩ : ∃ f, a0.size = f + 1 := ⟨a0.size - 1, by exact om127 h2⟩
  have : minRun' (f + 1) a0.size 0 = a0.size := by erw [minRun'_succ, if_pos h64]; rfl
  rwa [← hf] at this
 simp only [hB.size, hmr]
 have done : ∀ {st' : SortSt}, SB9 κ a0 st' -> (arrOf (setPending st' ((pendingOf st').push (0, a0.size, 0)))).Perm a0 /\ failedOf (setPending st' ((pendingOf st').push (0, a0.size, 0))) = none /\ pendingOf (setPending st' ((pendingOf st').push (0, a0.size, 0))) = #[(0, a0.size, 0)] := fun {st'} hB => ⟨hB.perm, hB.failed, by show (pendingOf st').push _ = _; erw [hB.pend]; rfl⟩
 refine wpS_bind (wpS_mono (wpS_forRange
  (I := fun x c st' => (x = 0 /\ c = (none, 0) /\ SB9 κ a0 st') ∨ (1 <= x /\ c = (none, a0.size) /\ (arrOf st').Perm a0 /\ failedOf st' = none /\ pendingOf st' = #[(0, a0.size, 0)]))
  (Q := fun c st' => c = (none, a0.size) /\ (arrOf st').Perm a0 /\ failedOf st' = none /\ pendingOf st' = #[(0, a0.size, 0)]) ?step ?fin (.inl ⟨rfl, rfl, hB⟩)) ?post)
 case fin =>
  rintro c st' (⟨hx, _, _⟩ | ⟨_, hc, hD⟩)
  ·omega
  ·exact ⟨hc, hD⟩
 case step =>
  rintro x c st' _ hx (⟨rfl, rfl, hB'⟩ | ⟨hx1, rfl, hD⟩)
  ·dsimp only
   rw [if_neg (om128 h2)]
   simp only [Nat.sub_zero, Nat.min_self, Nat.zero_add]
   refine wpS_bind (count9 hC (Nat.le_refl _) (om129 h2) hB' fun m st2 hB2 hm1 hm2 => ?_)
   dsimp only
   by_cases hlt : m < a0.size
   ·erw [if_pos hlt]
    refine wpS_bind (wpS_lift (wpAny_rule ⟨rfl, ?_⟩))
    refine wpS_bind (bin9 hC (Nat.le_refl _) hB2 fun st3 hB3 => ?_)
    simp only [Bool.not_true, Bool.false_eq_true, if_false]
    refine wpS_bind (wpS_get ?_)
    have hb : (pendingOf st3).back? = none := by erw [hB3.pend]; rfl
    erw [hb]
    dsimp only
    exact wpS_bind (wpS_modify (wpS_pure (.inr ⟨by exact om130, rfl, done hB3⟩)))
   ·erw [if_neg hlt]
    have hm : m = a0.size := by exact om58 hm2 hlt
    subst hm
    refine wpS_bind (wpS_get ?_)
    have hb : (pendingOf st2).back? = none := by erw [hB2.pend]; rfl
    erw [hb]
    dsimp only
    exact wpS_bind (wpS_modify (wpS_pure (.inr ⟨by exact om130, rfl, done hB2⟩)))
  ·dsimp only
   erw [if_pos (Nat.le_refl _)]
   exact wpS_pure ⟨rfl, hD⟩
 case post =>
  rintro c st' ⟨rfl, hD⟩
  dsimp only
  refine wpS_bind (wpS_mono (wpS_forRange (I := fun ζ c st'' => st'' = st' /\ c = (none, ())) (Q := fun c st'' => st'' = st' /\ c = (none, ())) ?_ (fun ζ ζ hh => hh) ⟨rfl, rfl⟩) ?_)
  ·rintro x c st'' _ _ ⟨rfl, rfl⟩
   refine wpS_bind (wpS_get ?_)
   rw [if_pos (by erw [hD.2.2]; exact Nat.le_refl 1)]
   exact wpS_pure ⟨rfl, rfl⟩
  ·rintro c st'' ⟨rfl, rfl⟩
   exact wpS_pure (h _ hD.1 hD.2.1)
end
section
variable {prog : Program} {w : World} {A : Around} {E : Value -> Shared -> Prop} {s : Shared}
theorem c2t {b : Bool} {x y : Int} {t u : Tok} {Q : Bool -> Shared -> Prop} (hQ : ∀ c, Q c s) : wpAny (model prog w) A (oneLt' b (.int x t) (.int y u)) Q E s := by
 cases b with
 | true => exact oneLt_int (hQ _)
 | false =>
  erw [oneLt'_eq]
  simp only [Bool.false_eq_true, if_false]
  refine wpAny_bind (show wpAny _ _ (compareOp .Lt (.int x t) (.int y u)) _ _ _ from wpAny_lt_int ?_)
  exact wpAny_truthy_bool (hQ _)
theorem c6j (b : Bool) (x y : Value) : keyLt' (tuples' b) x y = (do
  let xs ← Builtin.List.listItems x; let ys ← Builtin.List.listItems y
  for ((p, q), i) in (xs.toList.zip ys.toList).zipIdx do
   if !(← eqBool p q) then return ← oneLt' (b && i == 0) p q
  return xs.size < ys.size) := rfl
theorem b9a (v : Value) : firstOfTuple' v = (do
  if (← typeOf v) != .type "tuple" then return none
  return (← Builtin.List.listItems v)[0]?) := rfl
noncomputable def Pairs (prog : Program) (w : World) (h : Heap) (vs : List Value) : Prop := ∀ v ∈ vs, ∃ x y b, v = .ref b /\ TK prog w h [x, y] b
theorem Pairs.same {h h' : Heap} {vs : List Value} (x : Pairs prog w h vs) (e : ∀ b o, Value.ref b ∈ vs -> h.get? b = some o -> h'.get? b = some o) : Pairs prog w h' vs := fun v hv => by
 obtain ⟨a, c, b, rfl, hk⟩ := x v hv
 exact ⟨a, c, b, rfl, hk.same fun o => e b o hv⟩
theorem a5x {α β : Type} {a : α} {b : β} : ∀ {l : List α} {m : List β}, (a, b) ∈ l.zip m -> a ∈ l /\ b ∈ m
 | [], m, h => by cases h
 | x :: l, [], h => by cases h
 | x :: l, y :: m, h => by
  rw [List.zip_cons_cons] at h
  rcases List.mem_cons.mp h with e | h
  ·cases e; exact ⟨.head _, .head _⟩
  ·exact ⟨.tail _ (a5x h).1, .tail _ (a5x h).2⟩
theorem a8t {ks : List Int} {vs : List Value} (h : ItemsAre (intKind prog w) ks vs) : ∀ v ∈ vs, ∃ i t, v = .int i t := by
 induction h with
 | nil => exact fun ζ h => nomatch h
 | cons h1 _ ih => exact fun v hv => (List.mem_cons.mp hv).elim (fun q => (Value.isInt_shape (q ▸ h1)).elim fun t e => ⟨_, t, e⟩) (ih v)
theorem c2u {vs : List Value} (p : Pairs prog w s.heap vs) {b : Bool} {x y : Value} (hx : x ∈ vs) (hy : y ∈ vs) {Q : Bool -> Shared -> Prop} (hQ : ∀ c, Q c s) : wpAny (model prog w) A (keyLt' (tuples' b) x y) Q E s := by
 obtain ⟨_, _, b1, rfl, o1, it1, n1, ho1, _, hd1, hi1⟩ := p x hx
 obtain ⟨_, _, b2, rfl, o2, it2, n2, ho2, _, hd2, hi2⟩ := p y hy
 erw [c6j]
 refine wpAny_bind (listItems_at ho1 hd1 (wpAny_bind (listItems_at ho2 hd2 ?_)))
 refine wpAny_bind ?_
 refine wpAny_forIn_list _ (fun rest r s' => r.1 = none /\ s' = s /\ ∀ z ∈ rest, (∃ i t, z.1.1 = Value.int i t) /\ ∃ i t, z.1.2 = Value.int i t) _ ?_ ?_ _ _ ⟨rfl, rfl, fun z hz => ?_⟩
 ·rintro ⟨⟨u, v⟩, i⟩ rest r s' ⟨hr, rfl, hall⟩
  (refine xAEE (hall _ (.head _)) fun ε0 i2 t2 e2 => ?_; obtain ⟨i1, t1, e1⟩ := ε0)
  simp only at e1 e2
  subst e1 e2
  dsimp only
  refine wpAny_bind ((intKind prog w).eqBool (a := i1) (b := i2) (by simp [intKind, Value.isInt]) (by simp [intKind, Value.isInt]) ?_)
  cases hd : decide (i1 = i2) with
  | true =>
   simp only [Bool.not_true, Bool.false_eq_true, if_false]
   exact wpAny_pure ⟨rfl, rfl, fun z hz => hall z (.tail _ hz)⟩
  | false =>
   simp only [Bool.not_false, if_true]
   exact wpAny_bind (c2t fun c => wpAny_pure (wpAny_pure (hQ c)))
 ·rintro ⟨r1, r2⟩ s' ⟨hr, rfl, _⟩
  simp only at hr
  subst hr
  exact wpAny_pure (hQ _)
 ·obtain ⟨z, i⟩ := z
  have hz' : z ∈ it1.toList.zip it2.toList := by
   have := List.mem_zipIdx hz
   erw [this.2.2]; exact List.getElem_mem _
  exact ⟨a8t hi1 _ (a5x hz').1, a8t hi2 _ (a5x hz').2⟩
theorem b1t {α β : Type} {f : α -> Sem β} {M : Model} (P : β -> Prop) : ∀ {l : List α} {Q : List β -> Shared -> Prop}, (∀ v ∈ l, ∀ Q' : β -> Shared -> Prop, (∀ r, P r -> Q' r s) -> wpAny M A (f v) Q' E s) -> (∀ rs : List β, (∀ r ∈ rs, P r) -> Q rs s) -> wpAny M A (l.mapM f) Q E s
 | [], Q, _, h => by rw [List.mapM_nil]; exact wpAny_pure (h [] fun r hr => by cases hr)
 | x :: l, Q, hf, h => by
  rw [List.mapM_cons]
  refine wpAny_bind (hf x (.head _) _ fun r hr => wpAny_bind (b1t P (fun v hv => hf v (.tail _ hv)) fun rs hrs => wpAny_pure (h (r :: rs) fun z hz => ?_)))
  rcases List.mem_cons.mp hz with rfl | hz
  ·exact hr
  ·exact hrs z hz
theorem b9b {vs : List Value} (p : Pairs prog w s.heap vs) {Q : SortKind -> Shared -> Prop} (hQ : ∀ b, Q (tuples' b) s) : wpAny (model prog w) A (keyKind' vs.toArray) Q E s := by
 erw [keyKind'_eq, List.mapM_toArray, map_eq_pure_bind]
 refine wpAny_bind (wpAny_bind (b1t (fun r => ∃ i t, r = some (Value.int i t)) (fun v hv Q' hq => ?_) fun rs hrs => wpAny_pure ?_))
 ·obtain ⟨x, y, b, rfl, o, it, n, ho, hc, hd, hi⟩ := p v hv
  erw [b9a]
  refine wpAny_bind (wpAny_typeOf (T := "tuple") ⟨o, ho, hc⟩ ?_)
  rw [if_neg (by decide)]
  refine wpAny_bind (listItems_at ho hd (wpAny_pure ?_))
  obtain ⟨l⟩ := it
  have hi : ItemsAre (intKind prog w) [x, y] l := hi
  cases hi with
  | @cons _ v1 _ vs1 h1 h2 =>
   obtain ⟨i, t, rfl⟩ := a8t (prog := prog) (w := w) (.cons h1 h2) v1 (.head _)
   exact hq _ ⟨i, t, rfl⟩
 ·have hall : (rs.toArray.all fun x => x.isSome) = true := by
   erw [List.all_toArray, List.all_eq_true]
   intro r hr
   obtain ⟨i, t, rfl⟩ := hrs r hr
   rfl
  erw [if_pos hall]
  refine wpAny_bind (wpAny_rule ?_)
  erw [oneTypeOnly'_eq, Array.mapM_eq_mapM_toList, map_eq_pure_bind]
  refine wpAny_bind (wpAny_bind (wpAny_bind (b1t (fun r => True) (fun v hv Q' hq => ?_) fun ts ζ => wpAny_pure ?_)))
  ·have hv' : v ∈ rs.filterMap id := by
    have : (rs.toArray.filterMap id).toList = rs.filterMap id := by erw [Array.toList_filterMap]
    rw [this] at hv; exact hv
   refine xEA (List.mem_filterMap.mp hv') fun r hr e => ?_
   obtain ⟨i, t, rfl⟩ := hrs r hr
   have e : some (Value.int i t) = some v := e
   cases e
   exact wpAny_of_eq (show typeOf (Value.int i t) = pure (.type "int") from rfl) (hq _ trivial)
  ·cases ts.toArray[0]? with
   | none => exact wpAny_pure (wpAny_pure (hQ _))
   | some T => exact wpAny_pure (wpAny_pure (hQ _))
theorem b9c {a : Addr} {vs : List Value} {n : Nat} {P : PySem.Fin -> Shared -> Prop} (ho : s.heap.get? a = some (seqObj "list" vs.toArray n)) (hp : Pairs prog w s.heap vs) (hna : Value.ref a ∉ vs) (h64 : vs.length < 64)
  (h : ∀ h' out c, out.Perm vs -> h'.get? a = some (seqObj "list" (List.toArray out) c) -> (∀ b o, b ≠ a -> s.heap.get? b = some o -> h'.get? b = some o) -> P (.done (.ret .none)) { s with heap := h' }) :
  wpAny (model prog w) A (Builtin.«list.sort» ⟨[.ref a], []⟩) P E s := by
 have ha : a < s.heap.objs.size := Heap.lt_size ho
 have s1 := Heap.SameBut.update s.heap a (Obj.mapSeq fun ζ => (#[] : Array Value))
 obtain ⟨e1, ho1⟩ : ∃ e1, (s.heap.update a (Obj.mapSeq fun ζ => (#[] : Array Value))).get? a = some (seqObj "list" #[] e1) := ⟨_, get?_update_seq ho fun ζ => #[]⟩
 have old : ∀ b o, b ≠ a -> s.heap.get? b = some o -> (((s.heap.update a (Obj.mapSeq fun ζ => (#[] : Array Value))).push (seqObj "tuple" vs.toArray 0)).push (seqObj "list" #[] 0)).get? b = some o := fun b o hb e =>
  Heap.get?_push_of_some _ (Heap.get?_push_of_some _ ((s1.2 b hb).trans e))
 have ho6 : (((s.heap.update a (Obj.mapSeq fun ζ => (#[] : Array Value))).push (seqObj "tuple" vs.toArray 0)).push (seqObj "list" #[] 0)).get? a = some (seqObj "list" #[] e1) := Heap.get?_push_of_some _ (Heap.get?_push_of_some _ ho1)
 have hp6 := hp.same (h' := (((s.heap.update a (Obj.mapSeq fun ζ => (#[] : Array Value))).push (seqObj "tuple" vs.toArray 0)).push (seqObj "list" #[] 0))) fun b o hb e => old b o (fun h => hna (h ▸ hb)) e
 erw [list_sort_plain]
 refine wpAny_bind (listItems_at ho rfl ?_)
 refine wpAny_bind (listUpdate_at ho rfl ?_ (by erw [List.size_toArray, sizeLine_eq]; exact om131 h64) (Nat.zero_le _))
 refine wpAny_bind (seqEpoch_at ho1 rfl ?_)
 refine wpAny_bind (wpAny_newTuple ?_ (by show vs.length <= _; erw [sizeLine_eq]; exact om131 h64))
 refine wpAny_bind (wpAny_newList ?_ (Nat.zero_le _))
 refine wpAny_holding ?_
 show wpAny (model prog w) A _ P E { s with heap := ((s.heap.update a (Obj.mapSeq fun ζ => (#[] : Array Value))).push (seqObj "tuple" vs.toArray 0)).push (seqObj "list" #[] 0) }
 dsimp only
 have fin : ∀ (out : List Value), out.Perm vs -> ∀ (E' : Value -> Shared -> Prop), P (.done (.ret .none)) { s with heap := (((s.heap.update a (Obj.mapSeq fun ζ => (#[] : Array Value))).push (seqObj "tuple" vs.toArray 0)).push (seqObj "list" #[] 0)).update a (Obj.mapSeq fun ζ => List.toArray out) } := fun out hout E' => by
  have s2 := Heap.SameBut.update (((s.heap.update a (Obj.mapSeq fun ζ => (#[] : Array Value))).push (seqObj "tuple" vs.toArray 0)).push (seqObj "list" #[] 0)) a (Obj.mapSeq fun ζ => List.toArray out)
  exact h _ out _ hout (get?_update_seq ho6 fun ζ => List.toArray out) fun b o hb e => (s2.2 b hb).trans (old b o hb e)
 by_cases h2 : vs.toArray.size < 2
 ·erw [if_pos h2, if_pos h2]
  refine wpAny_bind (wpAny_pure ?_)
  rw [StateT.run_pure]
  refine wpAny_bind (wpAny_pure ?_)
  dsimp only
  refine wpAny_bind (seqEpoch_at ho6 rfl ?_)
  have hout : (arrOf (SortSt.mk' general' (vs.toArray.zip vs.toArray) #[] 7 none)).map (·.2) = List.toArray vs := by
   show (vs.toArray.zip vs.toArray).map (·.2) = List.toArray vs
   apply Array.toList_inj.mp
   simp [List.map_snd_zip]
  refine wpAny_bind (listUpdate_at ho6 rfl ?_ (Nat.zero_le _) (by
   have : ((arrOf (SortSt.mk' general' (vs.toArray.zip vs.toArray) #[] 7 none)).map (·.2)).size = vs.length := by erw [hout]; simp
   exact Nat.le_trans (Nat.le_of_eq this) (by erw [sizeLine_eq]; exact om132 h64)))
  simp only [bne_self_eq_false, Bool.false_eq_true, if_false]
  refine wpAny_pure ?_
  erw [hout]
  exact fin vs (List.Perm.refl _) (fun ζ ζ => True)
 ·erw [if_neg h2, if_neg h2]
  have h2' : 2 <= vs.length := by rw [List.size_toArray] at h2; exact om133 h2
  have hC : ∀ b, Cmp9 prog w A { s with heap := ((s.heap.update a (Obj.mapSeq fun ζ => (#[] : Array Value))).push (seqObj "tuple" vs.toArray 0)).push (seqObj "list" #[] 0) } (vs.toArray.zip vs.toArray) (tuples' b) := fun b x hx y hy E Q hQ => by
   have mem : ∀ x ∈ (vs.toArray.zip vs.toArray).toList, x.1 ∈ vs := fun x hx => by
    rw [Array.toList_zip] at hx
    exact (a5x hx).1
   exact c2u hp6 (mem x hx) (mem y hy) hQ
  refine wpAny_bind (b9b hp6 fun b => ?_)
  refine wpAny_bind (wpAny_mono (runs9 (hC b) (st := SortSt.mk' (tuples' b) (vs.toArray.zip vs.toArray) #[] 7 none) (Q := fun ζ st' => (arrOf st').Perm (vs.toArray.zip vs.toArray) /\ failedOf st' = none) ⟨Array.Perm.refl _, rfl, rfl, rfl⟩ (by simpa using h2') (by simpa using h64) fun st' a1 a2 => ⟨a1, a2⟩) ?_ fun ζ ζ e => e)
  rintro ⟨⟨⟩, st'⟩ s' ⟨rfl, hpm, hf⟩
  dsimp only
  refine wpAny_bind (seqEpoch_at ho6 rfl ?_)
  have hperm : ((arrOf st').map (·.2)).toList.Perm vs := by
   have := (Array.perm_iff_toList_perm.mp hpm).map (·.2)
   erw [Array.toList_map]
   refine this.trans ?_
   erw [Array.toList_zip]
   have : (vs.toArray.toList.zip vs.toArray.toList).map (·.2) = vs := List.map_snd_zip (Nat.le_refl _)
   erw [this]
  have hsz : ((arrOf st').map (·.2)).size = vs.length := by
   have := hperm.length_eq
   rw [Array.length_toList] at this; exact this
  refine wpAny_bind (listUpdate_at ho6 rfl ?_ (Nat.zero_le _) (Nat.le_trans (Nat.le_of_eq hsz) (by erw [sizeLine_eq]; exact om132 h64)))
  erw [hf]
  simp only [bne_self_eq_false, Bool.false_eq_true, if_false]
  exact wpAny_pure (fin _ hperm fun ζ ζ => True)
end
end Mine
end
section
open PySem PyProof.Rows PySem.SeqAt
namespace Mine
section
variable {prog : Program} {w : World} {A : Around} {E : Value -> Shared -> Prop} {s : Shared}
theorem c6k {a : Addr} {t : SetTable} {ep : Nat} {es : TEnt} : Src prog w "set" a es.size (fun i v => ∃ e, (ordN w a ep es)[i]? = some e /\ v = e.2) (fun h => SetT w h a es ep t) where
 kind := fun ζ hm => ⟨⟨_, hm.at_, rfl⟩, Heap.lt_size hm.at_⟩
 keep := fun ζ ζ hm hk => hm.same fun o e => hk o e
 other := ⟨by decide, by decide⟩
 hint := fun ζ ζ ζ ζ hm hq => c6c ⟨_, hm.at_, rfl⟩ hq
 walk := fun ζ s hh hm => ⟨_, _, (fun ζ ζ hq => b5n hm hq), b8z hh _ a (Nat.ne_of_lt (Heap.lt_size hm.at_)) t ep es, ⟨Heap.get?_push_size _ rfl, hm.same fun o e => Heap.get?_push_of_some _ e⟩⟩
theorem b3y {a : Addr} {t : SetTable} {ep : Nat} {es : TEnt} {R : List Value -> Shared -> Prop} (hh : A.handled = none) (hS : SetT w s.heap a es ep t)
  (h : ∀ (h' : Heap) (tk : Nat) (vs : List Value), (∀ b o, s.heap.get? b = some o -> h'.get? b = some o) -> vs.Perm (es.toList.map (·.2)) -> R vs { s with heap := h', toks := tk }) :
  wpAny (model prog w) A (collect (.ref a)) R E s := by
 have hz : es.size <= 127 := by rcases hS.tab.mask with ⟨_, h⟩ | ⟨_, h⟩ | ⟨_, h⟩ <;> omega
 refine a8b (c6k (t := t)) hh hS (by erw [sizeLine_eq]; exact om134 hz) fun h' tk acc hk hacc => ?_
 refine h h' tk acc.toList hk ?_
 have hoz : (ordN w a ep es).size = es.size := by have := (a5s w a ep es).length_eq; simpa using this
 have e1 : acc.toList = (ordN w a ep es).toList.map (·.2) := by
  apply List.ext_getElem?
  intro i
  erw [List.getElem?_map, Array.getElem?_toList, Array.getElem?_toList]
  cases hi : acc[i]? with
  | none =>
   have : (ordN w a ep es).size <= i := by erw [hoz, ← hacc.1]; exact Array.getElem?_eq_none_iff.mp hi
   erw [Array.getElem?_eq_none this]; rfl
  | some v =>
   obtain ⟨e, he, rfl⟩ := hacc.2 i v hi
   erw [he]; rfl
 erw [e1]
 exact (a5s w a ep es).map (·.2)
end
noncomputable def a4u (p : Int × Int) : D := .tup [.int p.1, .int p.2]
section
variable {gl : Str -> Option Value} {h : Heap} {G : Addr -> Prop} {prog : Program} {w : World}
theorem b1u {v : Value} {p : Int × Int} (r : DRel gl h G v (a4u p)) : ∃ b, v = .ref b /\ TK prog w h [p.1, p.2] b := by
 obtain ⟨a, vs, n, rfl, h1, h2⟩ := DRel.tupI (l := [.int p.1, .int p.2]) r
 exact ⟨_, rfl, a1t h1 (a1e (ns := [p.1, p.2]) h2)⟩
set_option tactic.hygienic true in
theorem c6l {b : Addr} {x y : Int} (k : TK prog w h [x, y] b) (ho : ∃ vs n, h.get? b = some (TO vs n)) : DRel gl h G (.ref b) (a4u (x, y)) := by
 obtain ⟨o, items, n, h1, hc, hd, hi⟩ := k
 refine xEE ho fun vs m h2 => ?_
 rw [h1] at h2; cases h2
 have e : items = vs.toArray := by cases hd; rfl
 subst e
 refine .tup h1 ?_
 have : ItemsAre (intKind prog w) [x, y] vs := by simpa using hi
 cases this with
 | cons a1 a2 =>
  cases a2 with
  | cons b1 b2 =>
   cases b2
   rename_i v1 v2
   obtain ⟨t1, rfl⟩ := Value.isInt_shape a1
   obtain ⟨t2, rfl⟩ := Value.isInt_shape b1
   exact .cons (.int _ _) (.cons (.int _ _) .nil)
theorem b7u : ∀ {out : List Value}, (∀ v ∈ out, ∃ p : Int × Int, DRel gl h G v (a4u p)) -> ∃ qs : List (Int × Int), DRels gl h G out (qs.map a4u)
 | [], _ => ⟨[], .nil⟩
 | v :: out, hv => by
  obtain ⟨p, hp⟩ := hv v List.mem_cons_self
  obtain ⟨qs, hq⟩ := b7u (out := out) fun v hv' => hv v (List.mem_cons_of_mem _ hv')
  exact ⟨p :: qs, .cons hp hq⟩
theorem DRels.back {vs : List Value} {l : List D} (r : DRels gl h G vs l) {i : Nat} {v : Value} (hv : vs[i]? = some v) : ∃ x, l[i]? = some x /\ DRel gl h G v x := by
 have hl : i < l.length := by erw [← r.length]; exact (List.getElem?_eq_some_iff.mp hv).1
 refine xEA (r.get (List.getElem?_eq_getElem hl)) fun v' e1 e2 => ?_
 rw [hv] at e1; cases e1
 exact ⟨_, List.getElem?_eq_getElem hl, e2⟩
end
section
variable {W : World0} {k : Nat} {A : Around} {s s' s'' : Shared} {F : Addr -> Prop} {sc : Scope}
variable {gl : Str -> Option Value} {X : Cx} {names : List Str} {ρ ρ' : List (Option V)} {σ σ' σ'' : List O} {Λ Λ' : Addr -> Prop} {ad ad' : List Addr}
theorem TE.sortedSetT (hW : WOk W) {e : CE} {Q : V -> List O -> Prop} (t : TE W k e ρ σ fun v σ' => ∃ ps : List (Int × Int), lstV σ' v = some (ps.map a4u) /\ ps.length < 60 /\ ∀ qs : List (Int × Int), (∀ p, p ∈ qs ↔ p ∈ ps) -> qs.length <= ps.length -> Q (.d (.lst (qs.map a4u))) σ') : TE W k (.prim "sorted" [.prim "set" [e]]) ρ σ Q :=
 fun names sc E he X hk hr hw Λ ad s S => by
  replace he := a2h he; obtain ⟨x, px, args, pos, rfl, he⟩ := he
  ·skip
   simp only [Bool.and_eq_true] at he
   obtain ⟨⟨hg, hes⟩, _⟩ := he
   first | (replace hes := a0i hes; obtain ⟨y, ys, rfl, hes⟩ := hes) | (replace hes := a0n hes; obtain ⟨rfl, hes⟩ := hes)
   ·skip
    simp only [Bool.and_eq_true] at hes
    obtain ⟨hy, hnil⟩ := hes
    have hnil' := hnil
    first | (replace hnil := a0i hnil; obtain ⟨_, _, rfl, hnil⟩ := hnil) | (replace hnil := a0n hnil; obtain ⟨rfl, hnil⟩ := hnil)
    ·refine Call_ (a5j hW hk hw S (f := "sorted") (by decide) hg (v := .builtin "sorted") (by decide +kernel) (by decide) ?_)
     refine callWith_builtin1 ?_ (a0v hy _ _) (b6u hnil' pos)
     erw [a0v hy]
     refine Calls.spliced_cons ?_
     replace hy := a2h hy; obtain ⟨_, _, _, _, rfl, hy⟩ := hy
     ·simp only [Bool.and_eq_true] at hy
      refine a3e hW (f := "set") (by decide) (v := .type "set") (by decide +kernel) (by decide) (.inr ⟨_, rfl⟩) (es := [e]) (by simp) hy.1.1 hy.1.2 hk hr hw S (Q := fun vals σ' => ∃ v, vals = [v] /\ ∃ ps : List (Int × Int), lstV σ' v = some (ps.map a4u) /\ ps.length < 60 /\ ∀ qs : List (Int × Int), (∀ p, p ∈ qs ↔ p ∈ ps) -> qs.length <= ps.length -> Q (.d (.lst (qs.map a4u))) σ') (t.mono fun v σ' h => ⟨v, rfl, h⟩) fun vs s₁ vals σ1 Λ1 ad1 S1 P1 r₁ q => ?_
      obtain ⟨v, rfl, ps, hl, h60, q⟩ := q
      obtain ⟨v', rfl, r⟩ := r₁.one
      obtain ⟨a, ws, n, rfl, h1, h2⟩ := a3a S1 r hl
      have hwl : ws.length = ps.length := by erw [h2.length, List.length_map]
      have hat : ∀ (i : Nat) v, ws[i]? = some v -> ∃ p, ps[i]? = some p /\ DRel W.gl s₁.heap (Un Λ1 X.Φ) v (a4u p) := fun i v hv => by
       refine xEA (h2.back hv) fun x e1 e2 => ?_
       rw [List.getElem?_map] at e1
       refine xEA (Option.map_eq_some_iff.mp e1) fun p e3 e4 => ?_
       exact ⟨p, e3, e4 ▸ e2⟩
      let key : Nat -> List Int := fun i => match ps[i]? with | some p => [p.1, p.2] | .none => []
      refine c2r (s := s₁) (PB := fun b => ∃ vs n, s₁.heap.get? b = some (TO vs n)) (key := key) hr.1 (a0b h1) (hr.units (n := 5) (by decide)) (fun i v hv => ?_) (by simpa [hwl] using h60) fun h' tk ep es tb hS' hK' hz' hk' => ?_
      ·have hv' : ws[i]? = some v := by simpa using hv
       refine xEA (hat i v hv') fun p e1 e2 => ?_
       refine xEA (b1u (prog := W.p) (w := W.w) e2) fun b e3 e4 => ?_
       refine ⟨b, e3, ?_, ?_⟩
       ·subst e3
        unfold a4u at e2
        cases e2 with
        | tup g1 g2 => exact ⟨_, _, g1⟩
       show TK W.p W.w s₁.heap (match ps[i]? with | some p => [p.1, p.2] | .none => []) b
       erw [e1]; exact e4
      refine Calls.spliced_nil ?_
      have hk1 : ∀ b o, s₁.heap.get? b = some o -> h'.get? b = some o := fun b o e => hk' b o (Heap.lt_size e) e
      have hkey : ∀ ks, HasK W.p W.w h' es ks ↔ ∃ p ∈ ps, ks = [p.1, p.2] := fun ks => by
       rw [hK' ks]
       constructor
       ·rintro ⟨j, hj, rfl⟩
        have hj' : j < ps.length := by simpa [hwl] using hj
        refine ⟨ps[j], List.getElem_mem hj', ?_⟩
        show (match ps[j]? with | some p => [p.1, p.2] | .none => []) = _
        erw [List.getElem?_eq_getElem hj']
       ·rintro ⟨p, hp, rfl⟩
        obtain ⟨j, hj⟩ := List.mem_iff_getElem?.mp hp
        have hj' := (List.getElem?_eq_some_iff.mp hj).1
        refine ⟨j, by simpa [hwl] using hj', ?_⟩
        show (match ps[j]? with | some p => [p.1, p.2] | .none => []) = _
        erw [hj]
      have hsz : es.size <= ps.length := by simpa [hwl] using hz'
      refine Calls.call_function_entry kind_sorted plain_sorted entry_sorted (args_sorted1 _) ?_
      unfold Builtin.«sorted»
      refine wpAny_bind (m := checkCount "sorted" 1 1 _) (wpAny_pure ?_)
      refine wpAny_bind (b3y (s := { s₁ with heap := h', toks := tk }) (A := X.A.in1) hr.1 ⟨hS'.at_, hS'.tab⟩ fun h2 tk2 vs hk2 hp => ?_)
      have hvl : vs.length = es.size := by erw [hp.length_eq, List.length_map, Array.length_toList]
      have hmem : ∀ v ∈ vs, ∃ p ∈ ps, ∃ b, v = .ref b /\ TK W.p W.w h2 [p.1, p.2] b /\ b < s₁.heap.objs.size := fun v hv => by
       obtain ⟨e, he, rfl⟩ := List.mem_map.mp (hp.mem_iff.mp hv)
       obtain ⟨ks, b, rfl, e2, e3, _⟩ := hS'.ent e he
       obtain ⟨p, hp1, rfl⟩ := (hkey ks).mp ⟨_, he, b, rfl, e2⟩
       exact ⟨p, hp1, b, rfl, e2.same (hk2 b), e3⟩
      refine wpAny_bind (wpAny_newList ?_ (by erw [hvl, sizeLine_eq]; exact om135 hsz h60))
      have hoL : (h2.push (seqObj "list" vs.toArray 0)).get? h2.objs.size = some (seqObj "list" vs.toArray 0) := Heap.get?_push_size _ rfl
      have hs1 : s₁.heap.objs.size <= h2.objs.size := by
       have := Heap.lt_size (hk2 _ _ hS'.at_)
       exact Nat.le_of_lt this
      refine wpAny_bind (wpAny_holding (wpAny_call_entry slot_list_sort ⟨_, hoL, rfl⟩ entry_list_sort (b9c hoL (fun v hv => ?_) (fun hc => ?_) (om136 hvl hsz h60) fun h3 out c hout ho3 hk3 => ⟨_, rfl, ?_⟩) (args_list_sort _)))
      ·refine b9m (hmem v hv) fun p ζ b e1 e2 ζ => ?_
       exact ⟨p.1, p.2, b, e1, e2.same fun o e => Heap.get?_push_of_some _ e⟩
      ·refine b9m (hmem _ hc) fun p ζ b e1 ζ e3 => ?_
       cases e1
       exact absurd (Nat.lt_of_lt_of_le e3 hs1) (Nat.lt_irrefl _)
      ·have hold : ∀ b o, h2.get? b = some o -> h3.get? b = some o := fun b o e => hk3 b o (Nat.ne_of_lt (Heap.lt_size e)) (Heap.get?_push_of_some _ e)
       have hold1 : ∀ b o, s₁.heap.get? b = some o -> h3.get? b = some o := fun b o e => hold b o (hk2 b o (hk1 b o e))
       have hrel : ∀ v ∈ out, ∃ p : Int × Int, DRel W.gl h3 (Un Λ1 X.Φ) v (a4u p) := fun v hv => by
        obtain ⟨e, he, rfl⟩ := List.mem_map.mp (hp.mem_iff.mp (hout.mem_iff.mp hv))
        obtain ⟨ks, b, rfl, e2, e3, ws', n', e4⟩ := hS'.ent e he
        obtain ⟨p, hp1, rfl⟩ := (hkey ks).mp ⟨_, he, b, rfl, e2⟩
        exact ⟨p, c6l (e2.same fun o e => hold b o (hk2 b o e)) ⟨ws', n', hold1 _ _ e4⟩⟩
       refine xE (b7u hrel) fun qs hqs => ?_
       have hql : qs.length = ps.length ∨ qs.length <= ps.length := .inr (by
        have := hqs.length
        rw [List.length_map, hout.length_eq, hvl] at this
        exact om137 this hsz)
       have hq1 : ∀ p, p ∈ qs ↔ p ∈ ps := fun p => by
        constructor
        ·intro hpq
         obtain ⟨i, hi⟩ := List.mem_iff_getElem?.mp hpq
         refine xEA (hqs.get (i := i) (x := a4u p) (by erw [List.getElem?_map, hi]; rfl)) fun v e1 e2 => ?_
         obtain ⟨e, he, rfl⟩ := List.mem_map.mp (hp.mem_iff.mp (hout.mem_iff.mp (List.mem_of_getElem? e1)))
         obtain ⟨ks, b, rfl, e4, e5, _⟩ := hS'.ent e he
         refine xEA (b1u (prog := W.p) (w := W.w) e2) fun b' e6 e7 => ?_
         cases e6
         have := e7.inj (e4.same fun o e => hold b o (hk2 b o e))
         refine xEA ((hkey ks).mp ⟨_, he, b, rfl, e4⟩) fun p' hp' e8 => ?_
         rw [e8] at this
         have : p = p' := by
          cases p; cases p'
          simpa using this
         erw [this]; exact hp'
        ·intro hpp
         obtain ⟨e, he, b, e1, e2⟩ := (hkey [p.1, p.2]).mpr ⟨p, hpp, rfl⟩
         have hv : Value.ref b ∈ out := hout.mem_iff.mpr (hp.mem_iff.mpr (List.mem_map.mpr ⟨e, he, e1⟩))
         obtain ⟨i, hi⟩ := List.mem_iff_getElem?.mp hv
         refine xEA (hqs.back hi) fun x e3 e4 => ?_
         rw [List.getElem?_map] at e3
         obtain ⟨p', e5, rfl⟩ := Option.map_eq_some_iff.mp e3
         refine xEA (b1u (prog := W.p) (w := W.w) e4) fun b' e6 e7 => ?_
         cases e6
         have := e7.inj (e2.same fun o e => hold b o (hk2 b o e))
         have : p' = p := by
          cases p; cases p'
          simpa using this
         erw [← this]; exact List.mem_of_getElem? e5
       refine wpAny_pure ⟨_, rfl, ?_⟩
       have fin : ∀ s3 : Shared, s3.heap = h3 -> s3.os = s₁.os -> s3.gens = s₁.gens -> Post W.gl X names ρ σ1 Λ1 ad1 s₁ Q (.ref h2.objs.size) s3 := fun s3 e1 e2 e3 => by
        refine Post.pure S1 (.of_keeps (fun b o e => by erw [e1]; exact hold1 b o e) e2 e3) (.d ?_) (q qs hq1 (hql.elim Nat.le_of_eq id))
        erw [e1]
        refine .lst (vs := out) (n := c) ho3 (fun hf => ?_) hqs
        obtain ⟨o, e'⟩ := S1.usedF _ hf
        exact absurd (Nat.lt_of_lt_of_le (Heap.lt_size e') hs1) (Nat.lt_irrefl _)
       exact Post.trans P1 (fin _ rfl rfl rfl)
end
end Mine
end
section
open PySem PyProof.Rows PySem.SeqAt
namespace Mine
theorem b3z : typeLookup (.type "list") (Str.ofString "keys") = pure none := by erw [typeLookup_type, builtinLookup_eq_fast]; kernel_rfl
section
variable {prog : Program} {w : World} {A : Around} {E : Value -> Shared -> Prop} {s : Shared} {a : Addr}
theorem d0k {vs : List Value} {n : Nat} {Q : Option Value -> Shared -> Prop} (hx : s.heap.get? a = some (LO vs n)) (hA : A.handled = none)
  (h : ∀ h' tk, (∀ b o, s.heap.get? b = some o -> h'.get? b = some o) -> Q none { s with heap := h', toks := tk }) :
  wpAny (model prog w) A (getAttr? (.ref a) (Str.ofString "keys")) Q E s := by
 obtain ⟨hp, g, d, tk, os⟩ := s
 have hx : hp.get? a = some { cls := .type "list", dict := none, data := .seq vs.toArray n, slots := #[] } := hx
 have hT : ∀ tk', (⟨hp, g, d, tk', os⟩ : Shared).TypeIs (.ref a) "list" := fun ζ => ⟨_, hx, rfl⟩
 have f1 := sub_AttributeError
 have f3 := F.slot_list_getattribute.lookup
 have f4 := F.slot_list_getattribute.bind (.ref a)
 have f5 := am_list_getattr_none
 unfold getAttr? getAttrBy? getAttrBy
 repeat (any_goals (first | assumption | exact hT _ | ((with_reducible show wpAny _ _ (call (Value.builtin "list.__getattribute__") _ _) _ _ _); refine call_meets F.slot_list_getattribute (hT _) am_entry_list_getattribute (F.args_list_getattribute_2 _ _) (meets_getattribute_miss_list a vs.toArray n #[] (Str.ofString "keys") _ b3z (by decide +kernel) (by erw [sizeLine_eq]; decide +kernel)) ⟨hx, hA, fun h' tk' e hx' => ?_⟩) | wp_step))
 refine xEE hx'.there fun t' u' he => ?_
 show wpAny _ _ (getattributeRaised _ _ _ _ _ _ _) _ _ _
 unfold getattributeRaised
 repeat (any_goals (first | assumption | wp_step))
 exact h _ _ hx'.keeps
end
end Mine
end
section
open PySem PyProof.Rows PySem.SeqAt
namespace Mine
theorem a3s : entryFor table "dict.update.loop" = some Builtin.«dict.update.loop» := entryFor_of_tree (by kernel_rfl)
theorem a1q : plainId "dict.update.loop" = true := by decide +kernel
noncomputable def dlT (key : Nat -> List Int) : Nat -> List (List Int × D)
 | 0 => []
 | i + 1 => put (dlT key i) (key i) (.bool true)
noncomputable def b0g : Addr -> Prop := fun ζ => False
section
variable {gl : Str -> Option Value} {h h' : Heap} {G : Addr -> Prop}
theorem KVT.any {xs : List (List Int × Addr × Value)} {l : List (List Int × D)} (r : KVT gl h G xs l) (hb : ∀ p ∈ l, p.2 = .bool true) {G' : Addr -> Prop} (e : ∀ x ∈ xs, ∀ o, h.get? x.2.1 = some o -> h'.get? x.2.1 = some o) : KVT gl h' G' xs l := by
 induction r with
 | nil => exact .nil
 | cons e1 e2 e3 e4 ih =>
  have e5 := hb _ List.mem_cons_self
  simp only at e5
  subst e5
  cases e3
  exact .cons (e _ List.mem_cons_self _ e1) e2 (.bool true) (ih (fun p hp => hb p (List.mem_cons_of_mem _ hp)) fun x hx => e x (List.mem_cons_of_mem _ hx))
theorem d0l {l : List (List Int × D)} (hb : ∀ p ∈ l, p.2 = .bool true) (k : List Int) : ∀ p ∈ put l k (.bool true), p.2 = .bool true := by
 unfold put
 split
 ·intro p hp
  obtain ⟨q, hq, rfl⟩ := List.mem_map.mp hp
  split
  ·rfl
  ·exact hb q hq
 ·intro p hp
  rcases List.mem_append.mp hp with hp | hp
  ·exact hb p hp
  ·rw [List.mem_singleton] at hp; erw [hp]
theorem b1v (key : Nat -> List Int) : ∀ i, ∀ p ∈ dlT key i, p.2 = .bool true
 | 0 => fun p hp => by cases hp
 | i + 1 => d0l (b1v key i) (key i)
theorem b4a {D : Addr} {xs : List (List Int × Addr × Value)} (hx : ∀ x ∈ xs, x.2.1 < D) {k : List Int} {a : Addr} (ha : a < D) {v : Value} : ∀ x ∈ storedH xs k a v, x.2.1 < D := by
 unfold storedH
 split
 ·intro x hx'
  obtain ⟨y, hy, rfl⟩ := List.mem_map.mp hx'
  unfold putAt
  split
  ·exact hx y hy
  ·exact hx y hy
 ·intro x hx'
  rcases List.mem_append.mp hx' with h | h
  ·exact hx x h
  ·rw [List.mem_singleton] at h; erw [h]; exact ha
theorem b9d {xs : List (List Int × Addr × Value)} {k : List Int} {a : Addr} {v : Value} : (storedH xs k a v).length <= xs.length + 1 := by
 unfold storedH
 split
 ·erw [List.length_map]; exact Nat.le_succ _
 ·erw [List.length_append]; exact Nat.le_refl _
theorem b0h {prog : Program} {w : World} {D : Addr} {xs : List (List Int × Addr × Value)} (x : h.DictOfH (tupleKind (intKind prog w)) D xs) (eD : ∀ o, h.get? D = some o -> h'.get? D = some o) (e : ∀ x ∈ xs, ∀ o, h.get? x.2.1 = some o -> h'.get? x.2.1 = some o) : h'.DictOfH (tupleKind (intKind prog w)) D xs := by
 obtain ⟨o, es, ep, ho, hc, hd, he, his, hn⟩ := x
 exact ⟨o, es, ep, eD o ho, hc, hd, he, fun x hx => TK.same (his x hx) (e x hx), hn⟩
end
section
variable {gl : Str -> Option Value} {prog : Program} {w : World} {A : Around} {R : Result -> Shared -> Prop} {I : Addr} {fp wr : List Addr} {G : Array GenState -> Array GenState -> Prop} {n : Nat} {P : Nat -> Value -> Prop} {St : Nat -> Shared -> Prop}
theorem c2v (W : WalksS prog w A.in1 I fp wr G n P St) (hu : A.in1.units < cLine) (S : Addr) (hSf : S ∉ fp) (hwr : ∀ b, b < S -> b ∉ wr) (key : Nat -> List Int) (hn : n < 60) {res : Value} :
  ∀ (k i : Nat) (s : Shared) (xs : List (List Int × Addr × Value)) (it : Int) (tk : Tok), n - i = k -> i <= n -> St i s -> s.heap.DictOfH (tupleKind (intKind prog w)) S xs -> KVT gl s.heap b0g xs (dlT key i) -> (∀ x ∈ xs, x.2.1 < S) -> xs.length <= i ->
   (∀ i v, i < n -> P i v -> ∃ c b vs m m', v = .ref c /\ c < S /\ s.heap.get? c = some (TO [.ref b, .bool true] m) /\ b < S /\ s.heap.get? b = some (TO vs m') /\ IntsAre vs (key i)) ->
   (∀ s' xs', Moved (S :: wr) G s s' -> s'.heap.DictOfH (tupleKind (intKind prog w)) S xs' -> KVT gl s'.heap b0g xs' (dlT key n) -> R (.ok (.ret res)) s') ->
   codeAny (model prog w) A (.builtin "dict.update.loop" ⟨[.ref S, .ref I, .int it tk, res], []⟩) R s := by
 have hSw : S ∉ wr := fun h => hSf (W.sub _ h)
 have hsub : ∀ b ∈ wr, b ∈ S :: wr := fun b hb => List.mem_cons_of_mem _ hb
 have hD2 : ∀ {s s' : Shared} {xs : List (List Int × Addr × Value)}, (∀ x ∈ xs, x.2.1 < S) -> s.heap.DictOfH (tupleKind (intKind prog w)) S xs -> Moved wr G s s' -> s'.heap.DictOfH (tupleKind (intKind prog w)) S xs := fun {s s' xs} hx hd hm =>
  b0h hd (fun o e => hm.heap S o hSw e) fun x hx' o e => hm.heap _ o (hwr _ (hx x hx')) e
 have hK2 : ∀ {s s' : Shared} {xs : List (List Int × Addr × Value)} {i : Nat}, (∀ x ∈ xs, x.2.1 < S) -> KVT gl s.heap b0g xs (dlT key i) -> Moved wr G s s' -> KVT gl s'.heap b0g xs (dlT key i) := fun {s s' xs i} hx hd hm =>
  hd.any (b1v key i) fun x hx' o e => hm.heap _ o (hwr _ (hx x hx')) e
 intro k
 induction k with
 | zero =>
  intro i s xs it tk hk hi hst hd hkv hx hz hval hR
  have hin : i = n := by exact om113 hi hk
  subst hin
  refine codeAny_builtin a3s ?_
  erw [Around.under_plainId a1q _]
  show wpAny _ A.in1 (pyNext (.ref I) >>= _) _ _ s
  refine wpAny_bind (W.done s _ _ hst fun s' hm => ?_)
  show wpAny _ A.in1 (Builtin.Dict.addKeywords S [] >>= fun ζ => ret res) _ _ s'
  refine wpAny_bind (wpAny_pure ?_)
  exact wpAny_pure (hR s' xs (hm.mono hsub) (hD2 hx hd hm) (hK2 hx hkv hm))
 | succ k ih =>
  intro i s xs it tk hk hi hst hd hkv hx hz hval hR
  have hlt : i < n := by exact om114 hk
  refine codeAny_builtin a3s ?_
  erw [Around.under_plainId a1q _]
  show wpAny _ A.in1 (pyNext (.ref I) >>= _) _ _ s
  refine wpAny_bind (W.item i s _ _ hlt hst fun v s' hP hst' hm => ?_)
  obtain ⟨c, b, vs, m, m', rfl, hc, hco, hb, hbo, hin⟩ := hval i v hlt hP
  have hco' := hm.heap c _ (hwr c hc) hco
  have hbo' := hm.heap b _ (hwr b hb) hbo
  dsimp only
  refine wpAny_bind (wpAny_holding ?_)
  refine wpAny_bind (wpAny_tryCatch ?_)
  unfold Builtin.Dict.pairItems
  refine wpAny_bind (wpAny_typeOf (T := "tuple") ⟨_, hco', rfl⟩ ?_)
  rw [if_pos (by decide)]
  refine wpAny_bind (wpAny_seqItems hco' rfl (wpAny_pure ?_))
  show wpAny _ _ (holding [Value.ref b, Value.bool true] (dictSet S (.ref b) (.bool true))) _ _ _
  refine wpAny_holding ?_
  refine wpAny_dictSet_heap (knd := tupleKind (intKind prog w)) hu (a1t hbo' hin) (hD2 hx hd hm) (fun h' hm' hs' => ?_) (by erw [sizeLine_eq]; exact om138 hz hlt hn)
  refine wpAny_pure ⟨plainId_quiet a1q _, ih (i + 1) _ (storedH xs (key i) b (.bool true)) _ _ (om116 hk) hlt (W.frame _ s' _ _ hst' (Nat.le_add_right _ _) fun b hb o e => ?_) hm' ?_ (b4a hx hb) (Nat.le_trans b9d (om139 hz)) (fun j v hj hPj => ?_) fun s'' xs'' hm'' hd'' => ?_⟩
  ·erw [hs'.2 b (fun h : b = S => hSf (by erw [← h]; exact hb))]; exact e
  ·have k1 := (hK2 hx hkv hm).stored hbo' hin (.bool true : DRel gl s'.heap b0g (.bool true) (.bool true))
   exact k1.any (b1v key (i + 1)) fun x hx' o e => (hs'.2 _ (Nat.ne_of_lt (b4a hx hb x hx'))).trans e
  ·refine b4o (hval j v hj hPj) fun c b' vs m m' e1 e2 e3 e4 e5 e6 => ?_
   exact ⟨c, b', vs, m, m', e1, e2, (hs'.2 c (Nat.ne_of_lt e2)).trans (hm.heap c _ (hwr c e2) e3), e4, (hs'.2 b' (Nat.ne_of_lt e4)).trans (hm.heap b' _ (hwr b' e4) e5), e6⟩
  ·refine hR s'' xs'' (Moved.trans W.gtrans ((hm.mono hsub).then_heap (Nat.le_add_right _ _) fun b o hb e => ?_) hm'') hd''
   erw [hs'.2 b (fun h : b = S => hb (by erw [h]; exact List.mem_cons_self))]; exact e
end
end Mine
end
section
open PySem PyProof.Rows PySem.SeqAt
namespace Mine
section
variable {gl : Str -> Option Value} {prog : Program} {w : World} {A : Around} {E : Value -> Shared -> Prop} {s : Shared}
theorem b9e {l : Addr} {ws : List Value} {n : Nat} {key : Nat -> List Int} {Q : Value -> Shared -> Prop} (hh : A.handled = none) (hu : A.units + 5 < cLine) (hl : s.heap.get? l = some (LO ws n)) (h60 : ws.length < 60)
  (hi : ∀ i v, ws[i]? = some v -> ∃ c b vs m m', v = .ref c /\ s.heap.get? c = some (TO [.ref b, .bool true] m) /\ s.heap.get? b = some (TO vs m') /\ IntsAre vs (key i))
  (h : ∀ (h' : Heap) (tk : Nat) xs, h'.DictOfH (tupleKind (intKind prog w)) s.heap.objs.size xs -> KVT gl h' b0g xs (dlT key ws.length) -> (∀ x ∈ xs, x.2.1 < s.heap.objs.size ∨ True) -> (∀ b o, s.heap.get? b = some o -> h'.get? b = some o) -> Q (.ref s.heap.objs.size) { s with heap := h', toks := tk }) :
  wpAny (model prog w) A (call (.type "dict") [.ref l]) Q E s := by
 have hlS : l < s.heap.objs.size := Heap.lt_size hl
 refine callType_codes (Q₁ := fun obj s₁ => obj = .ref s.heap.objs.size /\ s₁ = { s with heap := s.heap.push { cls := .type "dict", data := .dict #[] } }) F.kt_called_dict (F.kt_typeCall_dict_1 _) F.entry_dict_init (kt_code_dict_new _ ⟨rfl, rfl⟩) ?_
 rintro obj s₁ ⟨rfl, rfl⟩
 have hnew : (s.heap.push { cls := .type "dict", data := .dict #[] }).DictOfH (tupleKind (intKind prog w)) s.heap.objs.size [] := Heap.DictOfH.new s.heap
 have hT : Shared.TypeIs { s with heap := s.heap.push { cls := .type "dict", data := .dict #[] } } (.ref s.heap.objs.size) "dict" := hnew.typeIs
 refine ⟨hT, F.args_dict_init_2 _ _, ?_⟩
 have hl1 : (s.heap.push { cls := .type "dict", data := .dict #[] }).get? l = some (LO ws n) := Heap.get?_push_of_some _ hl
 unfold Builtin.«dict.__init__»
 refine wpAny_bind ?_
 unfold Builtin.Dict.selfAndRest
 refine wpAny_bind (wpAny_notOrdered_dict hT ?_)
 show wpAny _ _ (pure (s.heap.objs.size, [Value.ref l])) _ _ _
 refine wpAny_pure ?_
 show wpAny _ _ (Builtin.Dict.updateFrom "dict.__init__" s.heap.objs.size (.ref l) [] .none) _ _ _
 unfold Builtin.Dict.updateFrom
 refine wpAny_bind (wpAny_typeOf (T := "list") ⟨_, hl1, rfl⟩ ?_)
 rw [if_pos (by decide)]
 refine wpAny_bind (d0k hl1 hh fun h1 tk1 hk1 => ?_)
 simp only [Option.isNone_none, if_true]
 refine wpAny_bind (wpAny_rule ?_)
 have hl2 : h1.get? l = some (LO ws n) := hk1 _ _ hl1
 have hD2 : h1.objs.size ≥ s.heap.objs.size + 1 := by
  obtain ⟨o, es, ep, ho, _⟩ := hnew
  have := Heap.lt_size (hk1 _ _ ho)
  exact this
 refine wpAny_bind (wpAny_pyIter_list (s := { s with heap := h1, toks := tk1 }) (a0b hl2) ?_)
 refine wpAny_pure ⟨plainId_quiet a1q _, ?_⟩
 have hh1 : A.in1.in1.handled = none := hh
 have hneI : l ≠ h1.objs.size := Nat.ne_of_lt (Heap.lt_size hl2)
 have hSf : s.heap.objs.size ∉ [h1.objs.size, l] := by
  simp only [List.mem_cons, List.not_mem_nil, or_false, not_or]
  exact ⟨Nat.ne_of_lt hD2, Nat.ne_of_gt hlS⟩
 refine c2v (gl := gl) (n := ws.toArray.size) ((Walks.list hh1 _ l hneI ws.toArray).toS) (by simp only [Around.in1]; exact om140 hu) s.heap.objs.size hSf (fun b hb => ?_) key (by simpa using h60) (ws.toArray.size - 0) 0 _ [] 0 0 om120 (Nat.zero_le _)
  ⟨⟨_, Heap.get?_push_size _ rfl, rfl, rfl⟩, ((a0b hl2).push _)⟩ ?_ .nil (fun x hx => by cases hx) (Nat.zero_le _) (fun i v hlt hv => ?_) fun s' xs' hm hd' hkv' => ?_
 ·simp only [List.mem_singleton]
  exact Nat.ne_of_lt (Nat.lt_trans hb hD2)
 ·refine b0h hnew (fun o e => Heap.get?_push_of_some _ (hk1 _ _ e)) fun x hx => by cases hx
 ·have hv' : ws[i]? = some v := by simpa using hv
  refine a4y (hi i v hv') fun c b vs m m' e1 e2 e3 e4 => ?_
  exact ⟨c, b, vs, m, m', e1, Heap.lt_size e2, Heap.get?_push_of_some _ (hk1 _ _ (Heap.get?_push_of_some _ e2)), Heap.lt_size e3, Heap.get?_push_of_some _ (hk1 _ _ (Heap.get?_push_of_some _ e3)), e4⟩
 ·obtain ⟨h', g', d', tk', os'⟩ := s'
  have eg : g' = s.gens := hm.gens
  have ed : d' = s.drawn := hm.drawn
  have eo : os' = s.os := hm.os
  subst eg; subst ed; subst eo
  have hsz : ws.toArray.size = ws.length := by simp
  rw [hsz] at hkv'
  refine ⟨rfl, h h' tk' xs' hd' hkv' (fun ζ ζ => .inr trivial) fun b o e => ?_⟩
  have hb := Heap.lt_size e
  refine hm.heap b o ?_ (Heap.get?_push_of_some _ (hk1 _ _ (Heap.get?_push_of_some _ e)))
  simp only [List.mem_cons, List.not_mem_nil, or_false, not_or]
  exact ⟨Nat.ne_of_lt hb, Nat.ne_of_lt (Nat.lt_trans hb hD2)⟩
end
end Mine
end
section
open PySem PyProof.Rows PySem.SeqAt
namespace Mine
noncomputable def keyP (p : Int × Int) : List Int := [p.1, p.2]
noncomputable def dlP (ps : List (Int × Int)) : List (List Int × D) := ps.foldl (fun l p => put l (keyP p) (.bool true)) []
noncomputable def b5o (ps : List (Int × Int)) (i : Nat) : List Int := match ps[i]? with | some p => keyP p | .none => []
theorem c2w (ps : List (Int × Int)) : ∀ n, n <= ps.length -> dlT (b5o ps) n = dlP (ps.take n)
 | 0, _ => rfl
 | n + 1, h => by
  show put (dlT (b5o ps) n) (b5o ps n) (.bool true) = _
  erw [c2w ps n (Nat.le_of_succ_le h), List.take_add_one, List.getElem?_eq_getElem h]
  unfold dlP b5o
  erw [List.foldl_append, List.getElem?_eq_getElem h]
  rfl
section
variable {W : World0} {k : Nat} {ρ : List (Option V)} {σ : List O}
theorem TE.dictT (hW : WOk W) {e : CE} {Q : V -> List O -> Prop} (t : TE W k e ρ σ fun v σ' => ∃ ps : List (Int × Int), lstV σ' v = some (ps.map fun p => .tup [a4u p, .bool true]) /\ ps.length < 60 /\ Q (.r σ'.length) (σ' ++ [.dT (dlP ps)])) : TE W k (.prim "dict" [e]) ρ σ Q := fun names sc E he X hk hr hw Λ ad s S => by
 replace he := a2h he; obtain ⟨_, _, _, _, rfl, he⟩ := he
 simp only [Bool.and_eq_true] at he
 refine a3e hW (f := "dict") (by decide) (v := .type "dict") (by decide +kernel) (by decide) (.inr ⟨_, rfl⟩) (es := [e]) (by simp) he.1.1 he.1.2 hk hr hw S (Q := fun vals σ' => ∃ v, vals = [v] /\ ∃ ps : List (Int × Int), lstV σ' v = some (ps.map fun p => .tup [a4u p, .bool true]) /\ ps.length < 60 /\ Q (.r σ'.length) (σ' ++ [.dT (dlP ps)])) (t.mono fun v σ' h => ⟨v, rfl, h⟩) fun vs s₁ vals σ1 Λ1 ad1 S1 P1 r₁ q => ?_
 obtain ⟨v, rfl, ps, hl, h60, q⟩ := q
 obtain ⟨v', rfl, r⟩ := r₁.one
 obtain ⟨a, ws, n, rfl, h1, h2⟩ := a3a S1 r hl
 have hwl : ws.length = ps.length := by erw [h2.length, List.length_map]
 refine b9e (gl := W.gl) (key := b5o ps) hr.1 (hr.units (n := 5) (by decide)) h1 (om141 hwl h60) (fun i v hv => ?_) fun h' tk xs hd hkv ζ hk' => ?_
 ·refine xEA (h2.back hv) fun x e1 e2 => ?_
  rw [List.getElem?_map] at e1
  obtain ⟨p, e3, rfl⟩ := Option.map_eq_some_iff.mp e1
  obtain ⟨a', us, m, rfl, g1, g2⟩ := DRel.tupI e2
  obtain ⟨u1, u2, rfl, g3, g5⟩ := g2.two
  obtain rfl := g5.boolI
  obtain ⟨b', ws', m', rfl, g7, g8⟩ := DRel.tupI (l := [.int p.1, .int p.2]) g3
  refine ⟨_, _, _, _, _, rfl, g1, g7, ?_⟩
  unfold b5o
  erw [e3]
  exact a1e (ns := [p.1, p.2]) g8
 ·rw [hwl, c2w ps ps.length (Nat.le_refl _), List.take_length] at hkv
  have hall : ∀ p ∈ dlP ps, p.2 = .bool true := by
   have := b1v (b5o ps) ps.length
   rw [c2w ps ps.length (Nat.le_refl _), List.take_length] at this
   exact this
  have hs := S1.size_ne hw
  refine a0u (b4x hd hkv) fun es0 n0 e0 r0 nd0 => ?_
  obtain ⟨S2, P2⟩ := S1.live (s' := { s₁ with heap := h', toks := tk }) (.of_keeps hk' rfl rfl) (a0o s₁.heap) (o := .dT (dlP ps)) (by intro h; cases h) (fun Λ' ad' K pre => by
   refine a0u (b4x hd (hkv.any hall (G' := Un Λ' X.Φ) fun ζ ζ ζ e => e)) fun es n e r nd => ?_
   exact ⟨es, n, e, r, nd, hs⟩) ⟨_, e0⟩
  exact ⟨_, _, _, _, S2, P1.trans P2, .r (by erw [← S1.len]; simp), q⟩
end
end Mine
end
section
namespace Mine
noncomputable def sm : Nat -> (Nat -> Nat) -> Nat
 | 0, _ => 0
 | n + 1, f => sm n f + f n
theorem a0y : ∀ {n : Nat} {f g : Nat -> Nat}, (∀ i, i < n -> f i = g i) -> sm n f = sm n g
 | 0, _, _, _ => rfl
 | n + 1, f, g, h => by
  show sm n f + f n = sm n g + g n
  erw [a0y fun i hi => h i (Nat.lt_succ_of_lt hi), h n (Nat.lt_succ_self n)]
theorem b4b : ∀ (n : Nat) (f g : Nat -> Nat), sm n (fun i => f i + g i) = sm n f + sm n g
 | 0, _, _ => rfl
 | n + 1, f, g => by
  show sm n _ + (f n + g n) = sm n f + f n + (sm n g + g n)
  erw [b4b n f g]; exact Nat.add_add_add_comm _ _ _ _
theorem a8u : ∀ (n : Nat), sm n (fun ζ => 0) = 0
 | 0 => rfl
 | n + 1 => by show sm n _ + 0 = 0; erw [a8u n]
theorem c2x (c : Nat) : ∀ (n : Nat) (f : Nat -> Nat), sm n (fun i => f i * c) = sm n f * c
 | 0, _ => by simp [sm]
 | n + 1, f => by
  show sm n _ + f n * c = (sm n f + f n) * c
  erw [c2x c n f, Nat.add_mul]
theorem c2y (c : Nat) (n : Nat) (f : Nat -> Nat) : sm n (fun i => c * f i) = c * sm n f := by
 erw [Nat.mul_comm c, ← c2x]; exact a0y fun i ζ => Nat.mul_comm _ _
theorem a4b (c : Nat) : ∀ (n : Nat), sm n (fun ζ => c) = n * c
 | 0 => by simp [sm]
 | n + 1 => by
  show sm n _ + c = (n + 1) * c
  erw [a4b c n, Nat.add_mul, Nat.one_mul]
theorem c2z : ∀ (n m : Nat) (f : Nat -> Nat -> Nat), sm n (fun i => sm m (fun j => f i j)) = sm m (fun j => sm n (fun i => f i j))
 | 0, m, f => (a8u m).symm
 | n + 1, m, f => by
  show sm n _ + sm m (fun j => f n j) = sm m (fun j => sm n (fun i => f i j) + f n j)
  erw [b4b, c2z n m f]
theorem c7u : ∀ (a b : Nat) (f : Nat -> Nat), sm (a + b) f = sm a f + sm b (fun j => f (a + j))
 | a, 0, f => rfl
 | a, b + 1, f => by
  show sm (a + b) f + f (a + b) = sm a f + (sm b _ + f (a + b))
  erw [c7u a b f, Nat.add_assoc]
theorem c7v : ∀ (a b : Nat) (f : Nat -> Nat), sm (a * b) f = sm a (fun i => sm b (fun j => f (i * b + j)))
 | 0, b, f => by erw [Nat.zero_mul]; rfl
 | a + 1, b, f => by
  show _ = sm a _ + sm b _
  erw [Nat.add_mul, Nat.one_mul, c7u, c7v a b f]
theorem b4c {n i c : Nat} (hi : i < n) : sm n (fun j => if i = j then c else 0) = c := by
 induction n with
 | zero => exact om142 hi
 | succ n ih =>
  show sm n _ + (if i = n then c else 0) = c
  by_cases h : i = n
  ·erw [if_pos h, a0y (g := fun ζ => 0) fun j hj => if_neg (om143 h hj), a8u, Nat.zero_add]
  ·erw [if_neg h, ih (om119 hi h), Nat.add_zero]
theorem sm_upd {n i d : Nat} {f f' : Nat -> Nat} (hi : i < n) (h0 : ∀ j, j < n -> j ≠ i -> f' j = f j) (h1 : f' i = f i + d) : sm n f' = sm n f + d := by
 erw [← b4c (c := d) hi, ← b4b]
 refine a0y fun j hj => ?_
 by_cases h : i = j
 ·subst h; erw [if_pos rfl, h1]
 ·erw [if_neg h, h0 j hj fun e => h e.symm, Nat.add_zero]
theorem c3a : ∀ {n : Nat} {f g : Nat -> Nat}, (∀ i, i < n -> f i <= g i) -> sm n f <= sm n g
 | 0, _, _, _ => Nat.le_refl _
 | n + 1, f, g, h => Nat.add_le_add (c3a fun i hi => h i (Nat.lt_succ_of_lt hi)) (h n (Nat.lt_succ_self n))
theorem sm_eq_zero : ∀ {n : Nat} {f : Nat -> Nat}, sm n f = 0 ↔ ∀ i, i < n -> f i = 0
 | 0, _ => ⟨fun ζ i h => absurd h (Nat.not_lt_zero _), fun ζ => rfl⟩
 | n + 1, f => by
  show sm n f + f n = 0 ↔ _
  rw [Nat.add_eq_zero_iff, sm_eq_zero]
  constructor
  ·rintro ⟨h1, h2⟩ i hi
   by_cases e : i = n
   ·erw [e]; exact h2
   ·exact h1 i (Nat.lt_of_le_of_ne (Nat.le_of_lt_succ hi) e)
  ·exact fun h => ⟨fun i hi => h i (Nat.lt_succ_of_lt hi), h n (Nat.lt_succ_self n)⟩
theorem c3b {n i : Nat} {f : Nat -> Nat} (hi : i < n) : f i <= sm n f := by
 have := c3a (n := n) (f := fun j => if i = j then f i else 0) (g := f) fun j ζ => by
  by_cases h : i = j
  ·subst h; erw [if_pos rfl]; exact Nat.le_refl _
  ·erw [if_neg h]; exact Nat.zero_le _
 rwa [b4c hi] at this
noncomputable def wg (s N : Nat) (t : List Nat) (g : Nat -> Nat) : List Nat -> Nat -> Nat
 | [], e => g e
 | x :: z, e => sm s fun a => if t[e * s + a]? = some x then wg s N t g z ((e * s + a) % N) else 0
noncomputable def ways (s N : Nat) (t word : List Nat) : Nat := sm N (wg s N t (fun ζ => 1) word)
section
variable {s N : Nat} {t : List Nat}
theorem a6x (g : Nat -> Nat) : ∀ (u z : List Nat) (e : Nat), wg s N t g (u ++ z) e = wg s N t (wg s N t g z) u e
 | [], z, e => rfl
 | x :: u, z, e => by
  refine a0y (n := s) fun a ζ => ?_
  erw [← a6x g u z]; rfl
theorem a4c (hN : 0 < N) {g g' : Nat -> Nat} (h : ∀ e, e < N -> g e = g' e) : ∀ (u : List Nat) {e : Nat}, e < N -> wg s N t g u e = wg s N t g' u e
 | [], e, he => h e he
 | x :: u, e, he => by
  show sm s _ = sm s _
  refine a0y fun a ζ => ?_
  erw [a4c hN h u (Nat.mod_lt _ hN)]
theorem c3c (g g' : Nat -> Nat) : ∀ (u : List Nat) (e : Nat), wg s N t (fun e => g e + g' e) u e = wg s N t g u e + wg s N t g' u e
 | [], e => rfl
 | x :: u, e => by
  show sm s _ = sm s _ + sm s _
  erw [← b4b]
  refine a0y fun a ζ => ?_
  erw [c3c g g' u]
  split <;> rfl
theorem b1w : ∀ (u : List Nat) (e : Nat), wg s N t (fun ζ => 0) u e = 0
 | [], e => rfl
 | x :: u, e => by
  show sm s _ = 0
  rw [a0y (g := fun ζ => 0) fun a ζ => by erw [b1w u]; simp, a8u]
theorem c3d (c : Nat) (g : Nat -> Nat) : ∀ (u : List Nat) (e : Nat), wg s N t (fun e => c * g e) u e = c * wg s N t g u e
 | [], e => rfl
 | x :: u, e => by
  show sm s _ = c * sm s _
  erw [← c2y]
  refine a0y fun a ζ => ?_
  erw [c3d c g u]
  split <;> simp
theorem c3e {α : Type} (l : List α) (g : α -> Nat -> Nat) (u : List Nat) (e : Nat) : (l.map fun v => wg s N t (g v) u e).sum = wg s N t (fun e => (l.map fun v => g v e).sum) u e := by
 induction l with
 | nil => simp [b1w]
 | cons a l ih =>
  simp only [List.map_cons, List.sum_cons]
  erw [ih, ← c3c]
theorem b1x (c : Nat) (u : List Nat) (e : Nat) : wg s N t (fun ζ => c) u e = c * wg s N t (fun ζ => 1) u e := by
 erw [← c3d]; simp
noncomputable def allW (s : Nat) : Nat -> List (List Nat)
 | 0 => [[]]
 | n + 1 => (allW s n).flatMap fun p => (List.range s).map fun a => p ++ [a]
theorem allW_mem : ∀ {n : Nat} {z : List Nat}, z ∈ allW s n ↔ z.length = n /\ ∀ x ∈ z, x < s
 | 0, z => by
  simp only [allW, List.mem_singleton]
  constructor
  ·rintro rfl; simp
  ·rintro ⟨h, _⟩; exact List.length_eq_zero_iff.mp h
 | n + 1, z => by
  simp only [allW, List.mem_flatMap, List.mem_map, List.mem_range]
  constructor
  ·rintro ⟨p, hp, a, ha, rfl⟩
   obtain ⟨h1, h2⟩ := allW_mem.mp hp
   refine ⟨by simp [h1], fun x hx => ?_⟩
   rcases List.mem_append.mp hx with h | h
   ·exact h2 x h
   ·simp only [List.mem_singleton] at h; exact om144 h ha
  ·rintro ⟨h1, h2⟩
   rcases List.eq_nil_or_concat z with h | ⟨m, x, h⟩
   ·rw [h] at h1; simp at h1
   ·rw [h, List.concat_eq_append] at h1 h2
    refine ⟨m, allW_mem.mpr ⟨by simpa using h1, fun y hy => h2 y (by simp [hy])⟩, x, h2 x (by simp), ?_⟩
    erw [h, List.concat_eq_append]
theorem a1j {α : Type} (c : Nat) : ∀ l : List α, (l.map fun ζ => c).sum = l.length * c
 | [] => by simp
 | a :: l => by erw [List.map_cons, List.sum_cons, a1j c l, List.length_cons, Nat.add_mul, Nat.one_mul, Nat.add_comm]
theorem b4d (f : Nat -> Nat) : ∀ n, ((List.range n).map f).sum = sm n f
 | 0 => rfl
 | n + 1 => by erw [List.range_succ, List.map_append, List.sum_append, b4d f n]; simp [sm]
theorem a7m {α : Type} (f : List Nat -> Nat) (h : α -> List (List Nat)) : ∀ l : List α, ((l.flatMap h).map f).sum = (l.map fun p => ((h p).map f).sum).sum
 | [] => rfl
 | a :: l => by erw [List.flatMap_cons, List.map_append, List.sum_append, a7m f h l]; rfl
theorem a7n : ∀ n, (allW s n).length = s ^ n
 | 0 => rfl
 | n + 1 => by
  have := a7m (fun ζ => 1) (fun p => (List.range s).map fun a => p ++ [a]) (allW s n)
  rw [a1j] at this
  simp only [a1j, List.length_map, List.length_range, Nat.mul_one] at this
  show ((allW s n).flatMap _).length = _
  erw [this, a7n n, Nat.pow_succ]
noncomputable def av (s N : Nat) (g : Nat -> Nat) (e : Nat) : Nat := sm s fun b => g ((e * s + b) % N)
noncomputable def avs (s N : Nat) : Nat -> (Nat -> Nat) -> Nat -> Nat
 | 0, g => g
 | n + 1, g => avs s N n (av s N g)
theorem wg_one (hlen : t.length = N * s) (hsg : ∀ x ∈ t, x < s) (g : Nat -> Nat) {e : Nat} (he : e < N) : sm s (fun x => wg s N t g [x] e) = av s N g e := by
 show sm s (fun x => sm s fun a => if t[e * s + a]? = some x then g ((e * s + a) % N) else 0) = sm s _
 erw [c2z]
 refine a0y fun a ha => ?_
 have hlt : e * s + a < t.length := by
  erw [hlen]
  have := Nat.mul_le_mul_right s (show e + 1 <= N by exact om4 he)
  rw [Nat.add_mul, Nat.one_mul] at this; exact om41 this ha
 obtain ⟨v, hv⟩ : ∃ v, t[e * s + a]? = some v := ⟨_, List.getElem?_eq_getElem hlt⟩
 have hvs : v < s := hsg v (List.mem_of_getElem? hv)
 erw [hv]
 simp only [Option.some.injEq]
 exact b4c hvs
theorem b4e (hN : 0 < N) (hlen : t.length = N * s) (hsg : ∀ x ∈ t, x < s) : ∀ (n : Nat) (g : Nat -> Nat) {e : Nat}, e < N -> ((allW s n).map fun z => wg s N t g z e).sum = avs s N n g e
 | 0, g, e, he => by simp [allW, avs, wg]
 | n + 1, g, e, he => by
  show (((allW s n).flatMap fun p => (List.range s).map fun a => p ++ [a]).map fun z => wg s N t g z e).sum = avs s N n (av s N g) e
  erw [a7m, ← b4e hN hlen hsg n (av s N g) he]
  congr 1
  refine List.map_congr_left fun p ζ => ?_
  erw [List.map_map]
  erw [show ((fun z => wg s N t g z e) ∘ fun a => p ++ [a]) = fun a => wg s N t (wg s N t g [a]) p e from funext fun a => a6x g p [a] e]
  erw [c3e]
  refine a4c hN (fun e' he' => ?_) p he
  erw [b4d, wg_one hlen hsg g he']
theorem a8v (c : Nat) : ∀ (n e : Nat), avs s N n (fun ζ => c) e = s ^ n * c
 | 0, e => by simp [avs]
 | n + 1, e => by
  show avs s N n (fun e => sm s fun ζ => c) e = _
  erw [a4b, a8v]
  erw [Nat.pow_succ, Nat.mul_assoc]
theorem avs_eq (hN : 0 < N) (g : Nat -> Nat) : ∀ (n : Nat) {e : Nat}, e < N -> avs s N n g e = sm (s ^ n) fun j => g ((e * s ^ n + j) % N) := by
 intro n
 induction n generalizing g with
 | zero => intro e he; simp [avs, sm, Nat.mod_eq_of_lt he]
 | succ n ih =>
  intro e he
  show avs s N n (av s N g) e = _
  erw [ih _ he, Nat.pow_succ, c7v]
  refine a0y fun j ζ => ?_
  unfold av
  refine a0y fun b ζ => ?_
  congr 1
  have : e * (s ^ n * s) + (j * s + b) = (e * s ^ n + j) * s + b := by erw [Nat.add_mul, Nat.mul_assoc, Nat.add_assoc]
  erw [this, Nat.add_mod, Nat.mul_mod, Nat.mod_mod, ← Nat.mul_mod, ← Nat.add_mod]
theorem b7v {v : Nat} (hv : N = s ^ v) (hN : 0 < N) (g : Nat -> Nat) {e : Nat} (he : e < N) : avs s N v g e = sm N g := by
 erw [avs_eq hN g v he, ← hv]
 refine a0y fun j hj => ?_
 erw [Nat.mul_add_mod_self_right, Nat.mod_eq_of_lt hj]
theorem b7w {α : Type} (n : Nat) (f : α -> Nat -> Nat) : ∀ l : List α, (l.map fun z => sm n (f z)).sum = sm n fun e => (l.map fun z => f z e).sum
 | [] => (a8u n).symm
 | a :: l => by
  simp only [List.map_cons, List.sum_cons]
  erw [b7w n f l, b4b]
theorem b9f (hN : 0 < N) (hlen : t.length = N * s) (hsg : ∀ x ∈ t, x < s) (n : Nat) : ((allW s n).map fun z => ways s N t z).sum = N * s ^ n := by
 unfold ways
 rw [b7w, a0y (g := fun ζ => s ^ n) fun e he => ?_, a4b]
 erw [b4e hN hlen hsg n _ he, a8v, Nat.mul_one]
theorem c6m {v : Nat} (hv : N = s ^ v) (hN : 0 < N) (hlen : t.length = N * s) (hsg : ∀ x ∈ t, x < s) (u z : List Nat) : ((allW s v).map fun m => ways s N t (u ++ (m ++ z))).sum = ways s N t z * ways s N t u := by
 unfold ways
 erw [b7w, ← c2y]
 refine a0y fun e he => ?_
 erw [show (fun m => wg s N t (fun ζ => 1) (u ++ (m ++ z)) e) = fun m => wg s N t (wg s N t (wg s N t (fun ζ => 1) z) m) u e from funext fun m => by erw [a6x]; congr 1; funext e'; exact a6x _ m z e']
 erw [c3e, ← b1x]
 refine a4c hN (fun e' he' => ?_) u he
 erw [b4e hN hlen hsg v _ he', b7v hv hN _ he']
theorem c3f {α : Type} {c : Nat} {f : α -> Nat} : ∀ {l : List α}, (∀ x ∈ l, c <= f x) -> l.length * c <= (l.map f).sum
 | [], _ => by simp
 | a :: l, h => by
  erw [List.map_cons, List.sum_cons, List.length_cons, Nat.add_mul, Nat.one_mul, Nat.add_comm]
  exact Nat.add_le_add (h a (by simp)) (c3f fun x hx => h x (by simp [hx]))
theorem b4f {α : Type} {c : Nat} {f : α -> Nat} : ∀ {l : List α}, (∀ x ∈ l, c <= f x) -> (l.map f).sum <= l.length * c -> ∀ x ∈ l, f x = c
 | [], _, _ => fun x hx => absurd hx (by simp)
 | a :: l, h, hs => by
  rw [List.map_cons, List.sum_cons, List.length_cons, Nat.add_mul, Nat.one_mul] at hs
  have h1 := h a (by simp)
  have h2 := c3f (l := l) fun x hx => h x (by simp [hx])
  intro x hx
  rcases List.mem_cons.mp hx with e | hx
  ·subst e; exact om145 hs h1 h2
  ·exact b4f (fun x hx => h x (by simp [hx])) (om146 hs h1) x hx
theorem least (P : Nat -> Prop) : (∃ n, P n) -> ∃ m, P m /\ ∀ k, P k -> m <= k := by
 rintro ⟨n, hn⟩
 induction n using Nat.strongRecOn with
 | _ n ih =>
  by_cases h : ∃ k, k < n /\ P k
  ·refine xEA h fun k hk hp => ?_; exact ih k hk hp
  ·exact ⟨n, hn, fun k hk => by
    by_cases hlt : k < n
    ·exact absurd ⟨k, hlt, hk⟩ h
    ·exact om55 hlt⟩
theorem d0m {v : Nat} (hv : N = s ^ v) (hN : 0 < N) (hlen : t.length = N * s) (hsg : ∀ x ∈ t, x < s) (hall : ∀ z : List Nat, (∀ x ∈ z, x < s) -> ways s N t z ≠ 0) (z : List Nat) (hz : ∀ x ∈ z, x < s) : ways s N t z = N := by
 (refine xEA (least (fun n => ∃ u : List Nat, (∀ x ∈ u, x < s) /\ ways s N t u = n) ⟨_, [], by simp, rfl⟩) fun m ε0 hmin => ?_; obtain ⟨u, hu, hum⟩ := ε0)
 have hm : 0 < m := by have := hall u hu; exact om147 hum this
 have ge : ∀ z : List Nat, (∀ x ∈ z, x < s) -> N <= ways s N t z := fun z hz => by
  have h1 := c6m hv hN hlen hsg u z
  have h2 := c3f (c := m) (f := fun w => ways s N t (u ++ (w ++ z))) (l := allW s v) fun w hw => by
   refine hmin _ ⟨_, ?_, rfl⟩
   intro x hx
   rcases List.mem_append.mp hx with h | h
   ·exact hu x h
   ·rcases List.mem_append.mp h with h | h
    ·exact (allW_mem.mp hw).2 x h
    ·exact hz x h
  rw [h1, a7n, ← hv, hum] at h2
  exact Nat.le_of_mul_le_mul_right h2 hm
 refine b4f (f := ways s N t) (l := allW s z.length) (fun x hx => ge x (allW_mem.mp hx).2) ?_ z (allW_mem.mpr ⟨rfl, hz⟩)
 erw [b9f hN hlen hsg, a7n, Nat.mul_comm]
 exact Nat.le_refl _
end
end Mine
end
section
namespace Mine
section
variable {s N : Nat} {t : List Nat}
noncomputable def W2 (s N : Nat) (t : List Nat) : Nat × Nat -> List (Nat × Nat) -> Nat × Nat -> Prop
 | p, [], q => q = p
 | p, a :: l, q => a.1 < s /\ a.2 < s /\ t[p.1 * s + a.1]? = t[p.2 * s + a.2]? /\ W2 s N t ((p.1 * s + a.1) % N, (p.2 * s + a.2) % N) l q
noncomputable def dl (e x : Nat) : Nat := if x = e then 1 else 0
theorem sm_two {n : Nat} {f : Nat -> Nat} {a b : Nat} (ha : a < n) (hb : b < n) (hab : a ≠ b) (h1 : 1 <= f a) (h2 : 1 <= f b) : 2 <= sm n f := by
 have h := sm_upd (n := n) (i := a) (d := f a) (f := fun j => if j = a then 0 else f j) (f' := f) ha (fun j ζ hj => by simp [hj]) (by simp)
 have h3 := c3b (n := n) (i := b) (f := fun j => if j = a then 0 else f j) hb
 simp only [Ne.symm hab, if_false] at h3
 exact om148 h1 h2 h h3
theorem a6m : ∀ {n : Nat} {f : Nat -> Nat}, 1 <= sm n f -> ∃ a, a < n /\ 1 <= f a
 | 0, f, h => absurd h (by simp [sm])
 | n + 1, f, h => by
  by_cases h1 : 1 <= f n
  ·exact ⟨n, Nat.lt_succ_self n, h1⟩
  ·refine xEA (a6m (n := n) (f := f) (by simp only [sm] at h; exact om149 h h1)) fun a ha h2 => ?_
   exact ⟨a, Nat.lt_succ_of_lt ha, h2⟩
theorem sm_split : ∀ {n : Nat} {f : Nat -> Nat}, 2 <= sm n f -> (∃ a, a < n /\ 2 <= f a) ∨ ∃ a b, a < n /\ b < n /\ a ≠ b /\ 1 <= f a /\ 1 <= f b
 | 0, f, h => absurd h (by simp [sm])
 | n + 1, f, h => by
  simp only [sm] at h
  by_cases h2 : 2 <= f n
  ·exact .inl ⟨n, Nat.lt_succ_self n, h2⟩
  ·by_cases h0 : f n = 0
   ·rcases sm_split (n := n) (f := f) (om150 h h0) with ⟨a, ha, h3⟩ | ⟨a, b, ha, hb, hab, h3, h4⟩
    ·exact .inl ⟨a, Nat.lt_succ_of_lt ha, h3⟩
    ·exact .inr ⟨a, b, Nat.lt_succ_of_lt ha, Nat.lt_succ_of_lt hb, hab, h3, h4⟩
   ·refine xEA (a6m (n := n) (f := f) (om151 h h2)) fun a ha h3 => ?_
    exact .inr ⟨a, n, Nat.lt_succ_of_lt ha, Nat.lt_succ_self n, Nat.ne_of_lt ha, h3, by exact om152 h0⟩
theorem b1y {g g' : Nat -> Nat} (h : ∀ e, g e <= g' e) : ∀ (u : List Nat) (e : Nat), wg s N t g u e <= wg s N t g' u e
 | [], e => h e
 | x :: u, e => c3a fun a ζ => by
  show (if _ then _ else _) <= (if _ then _ else _)
  split
  ·exact b1y h u _
  ·exact Nat.le_refl 0
theorem d0n {g : Nat -> Nat} {x : Nat} {z : List Nat} {e a : Nat} (ha : a < s) (ht : t[e * s + a]? = some x) : wg s N t g z ((e * s + a) % N) <= wg s N t g (x :: z) e := by
 have h := c3b (n := s) (i := a) (f := fun a => if t[e * s + a]? = some x then wg s N t g z ((e * s + a) % N) else 0) ha
 simp only [ht, if_true] at h
 exact h
theorem W2.word (hN : 0 < N) (hlen : t.length = N * s) : ∀ {l : List (Nat × Nat)} {p q : Nat × Nat}, p.1 < N -> p.2 < N -> W2 s N t p l q -> ∃ z : List Nat, 1 <= wg s N t (dl q.1) z p.1 /\ 1 <= wg s N t (dl q.2) z p.2
 | [], p, q, _, _, h => by
  have h : q = p := h
  subst h
  exact ⟨[], by simp [wg, dl], by simp [wg, dl]⟩
 | a :: l, p, q, h1, h2, h => by
  obtain ⟨ha, hb, ht, h⟩ := h
  refine xEA (W2.word hN hlen (Nat.mod_lt _ hN) (Nat.mod_lt _ hN) h) fun z hz1 hz2 => ?_
  have hlt : p.1 * s + a.1 < t.length := by
   erw [hlen]
   have := Nat.mul_le_mul_right s (show p.1 + 1 <= N by exact om4 h1)
   rw [Nat.add_mul, Nat.one_mul] at this; exact om41 this ha
  obtain ⟨x, hx⟩ : ∃ x, t[p.1 * s + a.1]? = some x := ⟨_, List.getElem?_eq_getElem hlt⟩
  exact ⟨x :: z, Nat.le_trans hz1 (d0n ha hx), Nat.le_trans hz2 (d0n hb (ht ▸ hx))⟩
theorem c3g : ∀ {z : List Nat} {p q : Nat × Nat}, 1 <= wg s N t (dl q.1) z p.1 -> 1 <= wg s N t (dl q.2) z p.2 -> ∃ l, l.length = z.length /\ W2 s N t p l q
 | [], p, q, h1, h2 => by
  refine ⟨[], rfl, ?_⟩
  have a1 : p.1 = q.1 := Classical.byContradiction fun h => by simp [wg, dl, h] at h1
  have a2 : p.2 = q.2 := Classical.byContradiction fun h => by simp [wg, dl, h] at h2
  show q = p
  exact Prod.ext a1.symm a2.symm
 | x :: z, p, q, h1, h2 => by
  refine xEA (a6m (n := s) h1) fun a ha ha1 => ?_
  refine xEA (a6m (n := s) h2) fun b hb hb1 => ?_
  by_cases e1 : t[p.1 * s + a]? = some x
  ·by_cases e2 : t[p.2 * s + b]? = some x
   ·rw [if_pos e1] at ha1
    rw [if_pos e2] at hb1
    refine xEA (c3g (z := z) (p := ((p.1 * s + a) % N, (p.2 * s + b) % N)) (q := q) ha1 hb1) fun l hl h => ?_
    exact ⟨(a, b) :: l, by simp [hl], ha, hb, e1.trans e2.symm, h⟩
   ·rw [if_neg e2] at hb1; omega
  ·rw [if_neg e1] at ha1; omega
noncomputable def Dia (s N : Nat) (t : List Nat) : Prop := ∃ (e e' : Nat) (a : Nat × Nat) (l : List (Nat × Nat)), e < N /\ e' < N /\ a.1 ≠ a.2 /\ W2 s N t (e, e) (a :: l) (e', e')
theorem d0o (hN : 0 < N) (hlen : t.length = N * s) (h : Dia s N t) : ∃ (e e' : Nat) (z : List Nat), e < N /\ e' < N /\ 2 <= wg s N t (dl e') z e := by
 obtain ⟨e, e', a, l, he, he', hab, ha, hb, ht, h⟩ := h
 refine xEA (W2.word hN hlen (Nat.mod_lt _ hN) (Nat.mod_lt _ hN) h) fun z h1 h2 => ?_
 have hlt : e * s + a.1 < t.length := by
  erw [hlen]
  have := Nat.mul_le_mul_right s (show e + 1 <= N by exact om4 he)
  rw [Nat.add_mul, Nat.one_mul] at this; exact om41 this ha
 obtain ⟨x, hx⟩ : ∃ x, t[e * s + a.1]? = some x := ⟨_, List.getElem?_eq_getElem hlt⟩
 have hx2 : t[e * s + a.2]? = some x := ht ▸ hx
 refine ⟨e, e', x :: z, he, he', ?_⟩
 refine sm_two (n := s) (f := fun a => if t[e * s + a]? = some x then wg s N t (dl e') z ((e * s + a) % N) else 0) ha hb hab ?_ ?_
 ·simp only [hx, if_true]; exact h1
 ·simp only [hx2, if_true]; exact h2
theorem c3h (hN : 0 < N) {e' : Nat} (he' : e' < N) : ∀ {z : List Nat} {e : Nat}, e < N -> 2 <= wg s N t (dl e') z e -> Dia s N t
 | [], e, he, h => by
  have h : 2 <= dl e' e := h
  unfold dl at h
  split at h <;> omega
 | x :: z, e, he, h => by
  rcases sm_split (n := s) h with ⟨a, ha, h1⟩ | ⟨a, b, ha, hb, hab, h1, h2⟩
  ·by_cases e1 : t[e * s + a]? = some x
   ·rw [if_pos e1] at h1
    exact c3h hN he' (Nat.mod_lt _ hN) h1
   ·rw [if_neg e1] at h1; omega
  ·by_cases e1 : t[e * s + a]? = some x
   ·by_cases e2 : t[e * s + b]? = some x
    ·rw [if_pos e1] at h1
     rw [if_pos e2] at h2
     refine xEA (c3g (z := z) (p := ((e * s + a) % N, (e * s + b) % N)) (q := (e', e')) h1 h2) fun l ζ h => ?_
     exact ⟨e, e', (a, b), l, he, he', hab, ha, hb, e1.trans e2.symm, h⟩
    ·rw [if_neg e2] at h2; omega
   ·rw [if_neg e1] at h1; omega
theorem b7x (hsg : ∀ x ∈ t, x < s) {g : Nat -> Nat} : ∀ {z : List Nat} {e : Nat}, 1 <= wg s N t g z e -> ∀ x ∈ z, x < s
 | [], e, _ => fun x hx => absurd hx (by simp)
 | y :: z, e, h => by
  refine xEA (a6m (n := s) h) fun a ha h1 => ?_
  by_cases e1 : t[e * s + a]? = some y
  ·rw [if_pos e1] at h1
   intro x hx
   rcases List.mem_cons.mp hx with rfl | hx
   ·exact hsg x (List.mem_of_getElem? e1)
   ·exact b7x hsg h1 x hx
  ·rw [if_neg e1] at h1; omega
theorem dl_sum {e : Nat} (he : e < N) : sm N (dl e) = 1 := by
 have h := b4c (n := N) (i := e) (c := 1) he
 erw [← h]
 refine a0y fun j ζ => ?_
 unfold dl
 by_cases e1 : j = e
 ·simp [e1]
 ·simp [e1, Ne.symm e1]
theorem b7y {α : Type} {f : α -> Nat} : ∀ {l : List α}, 1 <= (l.map f).sum -> ∃ x ∈ l, 1 <= f x
 | [], h => absurd h (by simp)
 | a :: l, h => by
  by_cases h1 : 1 <= f a
  ·exact ⟨a, by simp, h1⟩
  ·refine xEA (b7y (f := f) (l := l) (by simp only [List.map_cons, List.sum_cons] at h; exact om153 h h1)) fun x hx h2 => ?_
   exact ⟨x, by simp [hx], h2⟩
noncomputable def rep (u : List Nat) : Nat -> List Nat
 | 0 => []
 | n + 1 => u ++ rep u n
theorem b4g {u : List Nat} (h : ∀ x ∈ u, x < s) : ∀ n, ∀ x ∈ rep u n, x < s
 | 0, x, hx => absurd hx (by simp [rep])
 | n + 1, x, hx => by
  rcases List.mem_append.mp hx with hx | hx
  ·exact h x hx
  ·exact b4g h n x hx
theorem c7w {u : List Nat} {e : Nat} (h : 2 <= wg s N t (dl e) u e) : ∀ n, 2 ^ n <= wg s N t (dl e) (rep u n) e
 | 0 => by simp [rep, wg, dl]
 | n + 1 => by
  show _ <= wg s N t (dl e) (u ++ rep u n) e
  erw [a6x]
  have h1 : wg s N t (fun x => 2 ^ n * dl e x) u e <= wg s N t (wg s N t (dl e) (rep u n)) u e := b1y (fun x => by
   unfold dl
   by_cases hx : x = e
   ·subst hx
    erw [if_pos rfl, Nat.mul_one]
    exact c7w h n
   ·erw [if_neg hx, Nat.mul_zero]; exact Nat.zero_le _) u e
  rw [c3d] at h1
  have h2 := Nat.mul_le_mul_left (2 ^ n) h
  erw [Nat.pow_succ]
  exact om154 h2 h1
set_option tactic.hygienic true in
theorem no_dia {v : Nat} (hv : N = s ^ v) (hN : 0 < N) (hlen : t.length = N * s) (hsg : ∀ x ∈ t, x < s) (hall : ∀ z : List Nat, (∀ x ∈ z, x < s) -> ways s N t z ≠ 0) : ¬ Dia s N t := fun hd => by
 refine xEEEAA (d0o hN hlen hd) fun e e' z he he' hz => ?_
 have hs := b4e hN hlen hsg v (dl e) he'
 rw [b7v hv hN _ he', dl_sum he] at hs
 refine xEA (b7y (Nat.le_of_eq hs.symm)) fun y hy h1 => ?_
 have h2 : 2 <= wg s N t (dl e) (z ++ y) e := by
  erw [a6x]
  refine Nat.le_trans hz (b1y (fun x => ?_) z e)
  unfold dl
  split
  ·rename_i hx; subst hx; exact h1
  ·exact Nat.zero_le _
 have hu : ∀ x ∈ z ++ y, x < s := b7x (N := N) hsg (g := dl e) (z := z ++ y) (e := e) (Nat.le_trans (by decide) h2)
 have h3 := c7w h2 N
 have h4 := d0m hv hN hlen hsg hall (rep (z ++ y) N) (b4g hu N)
 unfold ways at h4
 have h5 := c3b (n := N) (i := e) (f := wg s N t (fun ζ => 1) (rep (z ++ y) N)) he
 have h6 : wg s N t (dl e) (rep (z ++ y) N) e <= wg s N t (fun ζ => 1) (rep (z ++ y) N) e := b1y (fun x => by unfold dl; split <;> omega) _ e
 have h7 : N < 2 ^ N := Nat.lt_two_pow_self
 omega
noncomputable def blk (B : List (List Nat)) : Nat -> List (List Nat)
 | 0 => [[]]
 | k + 1 => B.flatMap fun b => (blk B k).map (b ++ ·)
theorem b1z (f : List Nat -> Nat) (B : List (List Nat)) (k : Nat) : ((blk B (k + 1)).map f).sum = (B.map fun b => ((blk B k).map fun z => f (b ++ z)).sum).sum := by
 show ((B.flatMap fun b => (blk B k).map (b ++ ·)).map f).sum = _
 erw [a7m]
 congr 1
 refine List.map_congr_left fun b ζ => ?_
 erw [List.map_map]; rfl
theorem c3i (B : List (List Nat)) : ∀ k, (blk B k).length = B.length ^ k
 | 0 => rfl
 | k + 1 => by
  have h := b1z (fun ζ => 1) B k
  rw [a1j, Nat.mul_one] at h
  simp only [a1j, Nat.mul_one] at h
  erw [h, c3i B k, Nat.pow_succ, Nat.mul_comm]
theorem c3j (hN : 0 < N) (hlen : t.length = N * s) (hsg : ∀ x ∈ t, x < s) (m : Nat) : ∀ (k : Nat) {e : Nat}, e < N -> ((blk (allW s m) k).map fun z => wg s N t (fun ζ => 1) z e).sum = (s ^ m) ^ k
 | 0, e, he => by simp [blk, wg]
 | k + 1, e, he => by
  erw [b1z]
  have h : ∀ b ∈ allW s m, ((blk (allW s m) k).map fun z => wg s N t (fun ζ => 1) (b ++ z) e).sum = (s ^ m) ^ k * wg s N t (fun ζ => 1) b e := fun b ζ => by
   erw [show (fun z => wg s N t (fun ζ => 1) (b ++ z) e) = fun z => wg s N t (wg s N t (fun ζ => 1) z) b e from funext fun z => a6x _ b z e]
   erw [c3e, ← b1x]
   exact a4c hN (fun e' he' => c3j hN hlen hsg m k he') b he
  erw [List.map_congr_left h]
  have h2 := b4e hN hlen hsg m (fun ζ => (s ^ m) ^ k) he
  rw [a8v] at h2
  erw [show (fun b => (s ^ m) ^ k * wg s N t (fun ζ => 1) b e) = fun b => wg s N t (fun ζ => (s ^ m) ^ k) b e from funext fun b => (b1x _ b e).symm, h2, Nat.pow_succ, Nat.mul_comm]
theorem b7z {B : List (List Nat)} {u : List Nat} : ∀ (k : Nat) {f : List Nat -> Nat}, (∀ x y, f (x ++ (u ++ y)) = 0) -> ((blk B k).map f).sum = ((blk (B.filter fun b => decide (b ≠ u)) k).map f).sum
 | 0, f, h => rfl
 | k + 1, f, h => by
  erw [b1z, b1z]
  have h1 : ∀ b ∈ B, ((blk B k).map fun z => f (b ++ z)).sum = ((blk (B.filter fun b => decide (b ≠ u)) k).map fun z => f (b ++ z)).sum := fun b ζ => b7z k fun x y => by erw [← List.append_assoc]; exact h _ _
  erw [List.map_congr_left h1]
  generalize blk (B.filter fun b => decide (b ≠ u)) k = Z
  clear h1
  induction B with
  | nil => rfl
  | cons b B ih =>
   by_cases hb : b = u
   ·subst hb
    rw [List.filter_cons_of_neg (by simp), List.map_cons, List.sum_cons, ih, show (fun z => f (b ++ z)) = fun ζ => 0 from funext fun z => h [] z, a1j, Nat.mul_zero, Nat.zero_add]
   ·erw [List.filter_cons_of_pos (by simp [hb]), List.map_cons, List.sum_cons, List.map_cons, List.sum_cons, ih]
theorem c7x {α : Type} {c : Nat} {f : α -> Nat} : ∀ {l : List α}, (∀ x ∈ l, f x <= c) -> (l.map f).sum <= l.length * c
 | [], _ => by simp
 | a :: l, h => by
  erw [List.map_cons, List.sum_cons, List.length_cons, Nat.add_mul, Nat.one_mul, Nat.add_comm]
  exact Nat.add_le_add (c7x fun x hx => h x (by simp [hx])) (h a (by simp))
theorem bern (q : Nat) : ∀ k, k * q ^ k <= (q + 1) ^ k * q
 | 0 => by simp
 | k + 1 => by
  have h := Nat.mul_le_mul_right q (bern q k)
  have h1 : q ^ k * q <= (q + 1) ^ k * q := Nat.mul_le_mul_right q (Nat.pow_le_pow_left (Nat.le_succ q) k)
  have e1 : (q + 1) ^ (k + 1) * q = (q + 1) ^ k * q * q + (q + 1) ^ k * q := by erw [Nat.pow_succ, Nat.mul_right_comm, Nat.mul_add, Nat.mul_one]
  have e2 : (k + 1) * q ^ (k + 1) = k * q ^ k * q + q ^ k * q := by erw [Nat.pow_succ, Nat.add_mul, Nat.one_mul, Nat.mul_assoc]
  erw [e1, e2]
  exact Nat.add_le_add h h1
theorem far (q c : Nat) (hq : 1 <= q) : ∃ k, c * q ^ k < (q + 1) ^ k := by
 refine ⟨(c + 1) * q, ?_⟩
 have h := bern q ((c + 1) * q)
 generalize hk : (c + 1) * q = k at h ⊢
 have h1 : (c + 1) * q ^ k * q <= (q + 1) ^ k * q := by
  have : k * q ^ k = (c + 1) * q ^ k * q := by erw [← hk, Nat.mul_right_comm]
  exact om137 this h
 have h2 := Nat.le_of_mul_le_mul_right h1 hq
 rw [Nat.add_mul, Nat.one_mul] at h2
 have h3 : 0 < q ^ k := Nat.pow_pos hq
 exact om155 h3 h2
theorem b8a : ∀ (z : List Nat) {e : Nat} (n : Nat), wg s N t (fun x => sm n fun j => dl j x) z e = sm n fun j => wg s N t (dl j) z e
 | z, e, 0 => by
  show wg s N t (fun x => 0) z e = 0
  exact b1w z e
 | z, e, n + 1 => by
  show wg s N t (fun x => (sm n fun j => dl j x) + dl n x) z e = (sm n fun j => wg s N t (dl j) z e) + wg s N t (dl n) z e
  erw [c3c, b8a z n]
theorem d0p (hN : 0 < N) (hd : ¬ Dia s N t) (z : List Nat) : ways s N t z <= N * N := by
 unfold ways
 have h : ∀ e, e < N -> wg s N t (fun ζ => 1) z e <= N := fun e he => by
  have h1 : wg s N t (fun ζ => 1) z e = sm N fun j => wg s N t (dl j) z e := by
   erw [← b8a]
   refine a4c hN (fun e' he' => ?_) z he
   have h2 := b4c (n := N) (i := e') (c := 1) he'
   erw [← h2]
   refine a0y fun j ζ => ?_
   unfold dl
   rfl
  erw [h1]
  have h2 : sm N (fun j => wg s N t (dl j) z e) <= sm N fun ζ => 1 := c3a fun j hj => Classical.byContradiction fun hn => hd (c3h hN hj (z := z) he (om156 hn))
  rw [a4b, Nat.mul_one] at h2
  exact h2
 have h3 : sm N (wg s N t (fun ζ => 1) z) <= sm N fun ζ => N := c3a h
 rw [a4b] at h3
 exact h3
theorem c3k (hN : 0 < N) {u : List Nat} (hu : ways s N t u = 0) (x y : List Nat) : ways s N t (x ++ (u ++ y)) = 0 := by
 unfold ways at hu ⊢
 rw [sm_eq_zero] at hu ⊢
 intro e he
 have h1 : ∀ e, e < N -> wg s N t (fun ζ => 1) (u ++ y) e = 0 := fun e he => by
  refine Classical.byContradiction fun hn => ?_
  have : ∀ (u y : List Nat) (e : Nat), 1 <= wg s N t (fun ζ => 1) (u ++ y) e -> 1 <= wg s N t (fun ζ => 1) u e := by
   intro u
   induction u with
   | nil => intro y e _; exact Nat.le_refl 1
   | cons a u ih =>
    intro y e h
    refine xEA (a6m (n := s) h) fun b hb h1 => ?_
    by_cases e1 : t[e * s + b]? = some a
    ·rw [if_pos e1] at h1
     exact Nat.le_trans (ih y _ h1) (d0n hb e1)
    ·rw [if_neg e1] at h1; exact om157 h1
  have h2 := this u y e (om152 hn)
  rw [hu e he] at h2
  omega
 erw [a6x, a4c hN (g' := fun ζ => 0) h1 x he, b1w]
theorem c6n (hs : 2 <= s) (hN : 0 < N) (hlen : t.length = N * s) (hsg : ∀ x ∈ t, x < s) {u : List Nat} (hu : ∀ x ∈ u, x < s) (h0 : ways s N t u = 0) : Dia s N t := Classical.byContradiction fun hd => by
 generalize hm : u.length = m
 have hmem : u ∈ allW s m := allW_mem.mpr ⟨hm, hu⟩
 have m1 : 1 <= m := by
  cases u with
  | nil =>
   exfalso
   unfold ways at h0
   rw [sm_eq_zero] at h0
   have := h0 0 hN
   simp [wg] at this
  | cons a u => erw [← hm]; simp
 have hq : 2 <= s ^ m := Nat.le_trans hs (by
  have := Nat.pow_le_pow_right (show 0 < s by exact om158 hs) m1
  simpa using this)
 obtain ⟨q, hq1⟩ : ∃ q, s ^ m = q + 1 := ⟨s ^ m - 1, by exact om127 hq⟩
 have hB : ((allW s m).filter fun b => decide (b ≠ u)).length <= q := by
  have : ((allW s m).filter fun b => decide (b ≠ u)).length < (allW s m).length := List.length_filter_lt_length_iff_exists.mpr ⟨u, hmem, by simp⟩
  rw [a7n] at this
  exact om159 this hq1
 obtain ⟨k, hk⟩ := far q N (om160 hq hq1)
 have h1 : ((blk (allW s m) k).map fun z => ways s N t z).sum = N * (q + 1) ^ k := by
  unfold ways
  rw [b7w, a0y (g := fun ζ => (q + 1) ^ k) fun e he => ?_, a4b]
  erw [c3j hN hlen hsg m k he, hq1]
 rw [b7z k (fun x y => c3k hN h0 x y)] at h1
 have h2 := c7x (c := N * N) (f := fun z => ways s N t z) (l := blk ((allW s m).filter fun b => decide (b ≠ u)) k) fun z ζ => d0p hN hd z
 rw [h1, c3i] at h2
 have h3 : ((allW s m).filter fun b => decide (b ≠ u)).length ^ k <= q ^ k := Nat.pow_le_pow_left hB k
 have h4 := Nat.le_trans h2 (Nat.mul_le_mul_right (N * N) h3)
 rw [Nat.mul_left_comm] at h4
 have h5 := Nat.le_of_mul_le_mul_left h4 hN
 rw [Nat.mul_comm] at h5
 omega
theorem eden {v : Nat} (hv : N = s ^ v) (hs : 2 <= s) (hN : 0 < N) (hlen : t.length = N * s) (hsg : ∀ x ∈ t, x < s) : Dia s N t ↔ ∃ u : List Nat, (∀ x ∈ u, x < s) /\ ways s N t u = 0 := by
 constructor
 ·intro hd
  refine Classical.byContradiction fun hn => no_dia hv hN hlen hsg (fun z hz h0 => hn ⟨z, hz, h0⟩) hd
 ·rintro ⟨u, hu, h0⟩
  exact c6n hs hN hlen hsg hu h0
end
end Mine
end
section
namespace Mine
section
variable {s N : Nat} {t : List Nat}
noncomputable def a0t (s N : Nat) (t : List Nat) (p : Nat × Nat) : List (Nat × Nat × (Nat × Nat)) :=
 (List.range s).flatMap fun a => ((List.range s).filter fun b => t[p.1 * s + a]? == t[p.2 * s + b]?).map fun b => (a, b, ((p.1 * s + a) % N, (p.2 * s + b) % N))
theorem stp_mem {p : Nat × Nat} {x : Nat × Nat × (Nat × Nat)} : x ∈ a0t s N t p ↔ x.1 < s /\ x.2.1 < s /\ t[p.1 * s + x.1]? = t[p.2 * s + x.2.1]? /\ x.2.2 = ((p.1 * s + x.1) % N, (p.2 * s + x.2.1) % N) := by
 unfold a0t
 simp only [List.mem_flatMap, List.mem_map, List.mem_filter, List.mem_range, beq_iff_eq]
 constructor
 ·rintro ⟨a, ha, b, ⟨hb, h⟩, rfl⟩; exact ⟨ha, hb, h, rfl⟩
 ·rintro ⟨ha, hb, h, e⟩; exact ⟨x.1, ha, x.2.1, ⟨hb, h⟩, by erw [← e]⟩
theorem b5p (p : Nat × Nat) : (a0t s N t p).length <= s * s := by
 unfold a0t
 have : ∀ n, ((List.range n).flatMap fun a => ((List.range s).filter fun b => t[p.1 * s + a]? == t[p.2 * s + b]?).map fun b => (a, b, ((p.1 * s + a) % N, (p.2 * s + b) % N))).length <= n * s := by
  intro n
  induction n with
  | zero => simp
  | succ n ih =>
   erw [List.range_succ, List.flatMap_append, List.length_append, Nat.add_mul, Nat.one_mul]
   refine Nat.add_le_add ih ?_
   erw [List.flatMap_cons, List.flatMap_nil, List.append_nil, List.length_map]
   exact Nat.le_trans (List.length_filter_le _ _) (Nat.le_of_eq List.length_range)
 exact this s
theorem W2.cons {p q : Nat × Nat} {x : Nat × Nat × (Nat × Nat)} {l : List (Nat × Nat)} (hx : x ∈ a0t s N t p) (h : W2 s N t x.2.2 l q) : W2 s N t p ((x.1, x.2.1) :: l) q := by
 refine xAAA (stp_mem.mp hx) fun h1 h2 h3 h4 => ?_
 exact ⟨h1, h2, h3, h4 ▸ h⟩
theorem W2.inv {p q a : Nat × Nat} {l : List (Nat × Nat)} (h : W2 s N t p (a :: l) q) : ∃ x ∈ a0t s N t p, (x.1, x.2.1) = a /\ W2 s N t x.2.2 l q := by
 obtain ⟨h1, h2, h3, h4⟩ := h
 exact ⟨(a.1, a.2, _), stp_mem.mpr ⟨h1, h2, h3, rfl⟩, rfl, h4⟩
theorem W2.app : ∀ {l l' : List (Nat × Nat)} {p q r : Nat × Nat}, W2 s N t p l q -> W2 s N t q l' r -> W2 s N t p (l ++ l') r
 | [], l', p, q, r, h1, h2 => by
  have h1 : q = p := h1
  subst h1; exact h2
 | a :: l, l', p, q, r, h1, h2 => ⟨h1.1, h1.2.1, h1.2.2.1, W2.app h1.2.2.2 h2⟩
theorem W2.unapp : ∀ {l l' : List (Nat × Nat)} {p r : Nat × Nat}, W2 s N t p (l ++ l') r -> ∃ q, W2 s N t p l q /\ W2 s N t q l' r
 | [], l', p, r, h => ⟨p, rfl, h⟩
 | a :: l, l', p, r, h => by
  refine xEA (W2.unapp h.2.2.2) fun q h1 h2 => ?_
  exact ⟨q, ⟨h.1, h.2.1, h.2.2.1, h1⟩, h2⟩
theorem W2.lt (hN : 0 < N) : ∀ {l : List (Nat × Nat)} {p q : Nat × Nat}, p.1 < N -> p.2 < N -> W2 s N t p l q -> q.1 < N /\ q.2 < N
 | [], p, q, h1, h2, h => by
  have h : q = p := h
  subst h; exact ⟨h1, h2⟩
 | a :: l, p, q, h1, h2, h => W2.lt hN (Nat.mod_lt _ hN) (Nat.mod_lt _ hN) h.2.2.2
theorem W2.signs : ∀ {l : List (Nat × Nat)} {p q : Nat × Nat}, W2 s N t p l q -> ∀ a ∈ l, a.1 < s /\ a.2 < s
 | [], p, q, h => fun a ha => absurd ha (by simp)
 | a :: l, p, q, h => fun b hb => by
  rcases List.mem_cons.mp hb with rfl | hb
  ·exact ⟨h.1, h.2.1⟩
  ·exact W2.signs h.2.2.2 b hb
abbrev Ent := (Nat × Nat) × List Nat × List Nat
noncomputable def exts (s N : Nat) (t : List Nat) (e : Ent) : List Ent := (a0t s N t e.1).map fun x => (x.2.2, e.2.1 ++ [x.1], e.2.2 ++ [x.2.1])
noncomputable def wqn (s N : Nat) (t : List Nat) (i : Nat) (w : List Ent) : List Ent := match w[i]? with
 | none => w
 | some e => if e.1 ∈ (w.take i).map (·.1) then w else w ++ exts s N t e
noncomputable def wq (s N : Nat) (t : List Nat) (bs : List Ent) : Nat -> List Ent
 | 0 => bs
 | i + 1 => wqn s N t i (wq s N t bs i)
structure WqOk (s N : Nat) (t : List Nat) (bs w : List Ent) (i : Nat) : Prop where
 pre : ∃ r, w = bs ++ r
 way : ∀ e ∈ w, ∃ b ∈ bs, ∃ l, W2 s N t b.1 l e.1 /\ e.2.1 = b.2.1 ++ l.map (·.1) /\ e.2.2 = b.2.2 ++ l.map (·.2)
 len : ∀ e ∈ w, e.2.1.length = e.2.2.length
 srt : ∀ {j k : Nat} {e f : Ent}, j < k -> w[j]? = some e -> w[k]? = some f -> e.2.1.length <= f.2.1.length
 lvl : ∀ {j k : Nat} {e f : Ent}, i <= j -> w[j]? = some e -> w[k]? = some f -> f.2.1.length <= e.2.1.length + 1
 cls : ∀ {j : Nat} {e : Ent}, j < i -> w[j]? = some e -> ∀ x ∈ a0t s N t e.1, ∃ f ∈ w, f.1 = x.2.2 /\ f.2.1.length <= e.2.1.length + 1
theorem d0q {bs : List Ent} (h1 : ∀ b ∈ bs, b.2.1.length = 1 /\ b.2.2.length = 1) : WqOk s N t bs bs 0 where
 pre := ⟨[], by simp⟩
 way := fun e he => ⟨e, he, [], rfl, by simp, by simp⟩
 len := fun e he => by erw [(h1 e he).1, (h1 e he).2]
 srt := fun ζ h2 h3 => by erw [(h1 _ (List.mem_of_getElem? h2)).1, (h1 _ (List.mem_of_getElem? h3)).1]; exact Nat.le_refl _
 lvl := fun ζ h2 h3 => by erw [(h1 _ (List.mem_of_getElem? h2)).1, (h1 _ (List.mem_of_getElem? h3)).1]; exact Nat.le_succ _
 cls := fun h => absurd h (Nat.not_lt_zero _)
set_option tactic.hygienic true in
theorem d0r {bs w : List Ent} {i : Nat} (O : WqOk s N t bs w i) : WqOk s N t bs (wqn s N t i w) (i + 1) := by
 unfold wqn
 split
 ·rename_i hn
  have hi : w.length <= i := List.getElem?_eq_none_iff.mp hn
  exact ⟨O.pre, O.way, O.len, O.srt, fun {j k e f} hj h1 h2 => O.lvl (om26 hj) h1 h2, fun {j e} hj h1 => by
   have : j < w.length := (List.getElem?_eq_some_iff.mp h1).1
   exact O.cls (om29 this hi) h1⟩
 ·rename_i e he
  split
  ·rename_i hm
   refine ⟨O.pre, O.way, O.len, O.srt, fun {j k e f} hj h1 h2 => O.lvl (om26 hj) h1 h2, fun {j f} hj h1 x hx => ?_⟩
   by_cases hji : j < i
   ·exact O.cls hji h1 x hx
   ·have : j = i := by exact om161 hj hji
    subst this
    rw [he] at h1; cases h1
    refine xEA (List.mem_map.mp hm) fun g hg hge => ?_
    obtain ⟨j', hj'⟩ := List.mem_iff_getElem?.mp hg
    have hlt : j' < j := by
     have := (List.getElem?_eq_some_iff.mp hj').1
     rw [List.length_take] at this; exact om94 this
    rw [List.getElem?_take_of_lt hlt] at hj'
    refine xEAA (O.cls hlt hj' x (by erw [hge]; exact hx)) fun f hf h2 h3 => ?_
    exact ⟨f, hf, h2, by have := O.srt hlt hj' he; exact om117 h3 this⟩
  ·rename_i hm
   have hex : ∀ f ∈ exts s N t e, f.2.1.length = e.2.1.length + 1 /\ f.2.2.length = e.2.2.length + 1 := fun f hf => by
    obtain ⟨x, hx, rfl⟩ := List.mem_map.mp hf
    simp
   have hem : e ∈ w := List.mem_of_getElem? he
   have hlen : i < w.length := (List.getElem?_eq_some_iff.mp he).1
   have old : ∀ {k : Nat} {f : Ent}, (w ++ exts s N t e)[k]? = some f -> (w[k]? = some f /\ k < w.length) ∨ (w.length <= k /\ f ∈ exts s N t e) := fun {k f} h => by
    by_cases hk : k < w.length
    ·rw [List.getElem?_append_left hk] at h; exact .inl ⟨h, hk⟩
    ·rw [List.getElem?_append_right (om55 hk)] at h; exact .inr ⟨by exact om55 hk, List.mem_of_getElem? h⟩
   refine ⟨?_, ?_, ?_, ?_, ?_, ?_⟩
   ·obtain ⟨r, hr⟩ := O.pre
    exact ⟨r ++ exts s N t e, by erw [hr, List.append_assoc]⟩
   ·intro f hf
    rcases List.mem_append.mp hf with hf | hf
    ·exact O.way f hf
    ·obtain ⟨x, hx, rfl⟩ := List.mem_map.mp hf
     refine b9m (O.way e hem) fun b hb l h1 h2 h3 => ?_
     refine ⟨b, hb, l ++ [(x.1, x.2.1)], W2.app h1 (W2.cons hx rfl), ?_, ?_⟩
     ·simp [h2]
     ·simp [h3]
   ·intro f hf
    rcases List.mem_append.mp hf with hf | hf
    ·exact O.len f hf
    ·erw [(hex f hf).1, (hex f hf).2, O.len e hem]
   ·intro j k f g hjk h1 h2
    rcases old h1 with ⟨h1, hj⟩ | ⟨hj, h1⟩
    ·rcases old h2 with ⟨h2, hk⟩ | ⟨hk, h2⟩
     ·exact O.srt hjk h1 h2
     ·erw [(hex g h2).1]
      exact O.lvl (Nat.le_refl _) he h1
    ·rcases old h2 with ⟨h2, hk⟩ | ⟨hk, h2⟩
     ·exact om162 hjk hk hj
     ·erw [(hex g h2).1, (hex f h1).1]; exact Nat.le_refl _
   ·intro j k f g hj h1 h2
    have base : e.2.1.length <= f.2.1.length := by
     rcases old h1 with ⟨h1, hj2⟩ | ⟨hj2, h1⟩
     ·exact O.srt (om92 hj) he h1
     ·erw [(hex f h1).1]; exact Nat.le_succ _
    rcases old h2 with ⟨h2, hk⟩ | ⟨hk, h2⟩
    ·have := O.lvl (Nat.le_refl _) he h2; exact om117 this base
    ·erw [(hex g h2).1]; exact om139 base
   ·intro j f hj h1 x hx
    rcases old h1 with ⟨h1, hj2⟩ | ⟨hj2, h1⟩
    ·by_cases hji : j < i
     ·refine xEA (O.cls hji h1 x hx) fun g hg h2 => ?_
      exact ⟨g, List.mem_append_left _ hg, h2⟩
     ·have : j = i := by exact om161 hj hji
      subst this
      rw [he] at h1; cases h1
      exact ⟨_, List.mem_append_right _ (List.mem_map.mpr ⟨x, hx, rfl⟩), rfl, by simp⟩
    ·omega
theorem b9g {bs : List Ent} (h1 : ∀ b ∈ bs, b.2.1.length = 1 /\ b.2.2.length = 1) : ∀ i, WqOk s N t bs (wq s N t bs i) i
 | 0 => d0q h1
 | i + 1 => d0r (b9g h1 i)
theorem WqOk.near {bs w : List Ent} {i : Nat} (O : WqOk s N t bs w i) {G : Nat × Nat -> Bool} (hno : ∀ {j : Nat} {e : Ent}, j < i -> w[j]? = some e -> G e.1 = false) {m : Nat} (hm : ∀ {j : Nat} {e : Ent}, i <= j -> w[j]? = some e -> m <= e.2.1.length) :
  ∀ {l : List (Nat × Nat)} {e : Ent} {q : Nat × Nat}, e ∈ w -> W2 s N t e.1 l q -> G q = true -> m <= e.2.1.length + l.length
 | l, e, q, he, h, hG => Classical.byContradiction fun hn => by
  obtain ⟨j, hj⟩ := List.mem_iff_getElem?.mp he
  have hji : j < i := by
   by_cases hc : j < i
   ·exact hc
   ·have := hm (om55 hc) hj; exact om163 this hn
  match l, h, hn with
  | [], h, hn =>
   have h : q = e.1 := h
   rw [h, hno hji hj] at hG
   exact dFT hG
  | a :: l, h, hn =>
   refine xEAA (W2.inv h) fun x hx ζ h2 => ?_
   refine xEAA (O.cls hji hj x hx) fun f hf hf1 hf2 => ?_
   have := WqOk.near O hno hm hf (by rw [hf1]; exact h2) hG
   simp only [List.length_cons] at hn
   omega
theorem WqOk.goal {bs w : List Ent} {i : Nat} (O : WqOk s N t bs w i) (h1 : ∀ b ∈ bs, b.2.1.length = 1 /\ b.2.2.length = 1) {G : Nat × Nat -> Bool} (hno : ∀ {j : Nat} {e : Ent}, j < i -> w[j]? = some e -> G e.1 = false) {e : Ent} (he : w[i]? = some e) {b : Ent} {l : List (Nat × Nat)} {q : Nat × Nat} (hb : b ∈ bs) (h : W2 s N t b.1 l q) (hG : G q = true) : e.2.1.length <= l.length + 1 := by
 obtain ⟨r, hr⟩ := O.pre
 have := O.near hno (m := e.2.1.length) (fun {j f} hj hf => by
  by_cases hc : i = j
  ·subst hc; rw [he] at hf; cases hf; exact Nat.le_refl _
  ·exact O.srt (om164 hj hc) he hf) (e := b) (by erw [hr]; exact List.mem_append_left _ hb) h hG
 rw [(h1 b hb).1] at this
 exact om165 this
theorem WqOk.lost {bs w : List Ent} {i : Nat} (O : WqOk s N t bs w i) {G : Nat × Nat -> Bool} (hno : ∀ {j : Nat} {e : Ent}, j < i -> w[j]? = some e -> G e.1 = false) (hi : w.length <= i) {b : Ent} {l : List (Nat × Nat)} {q : Nat × Nat} (hb : b ∈ bs) (h : W2 s N t b.1 l q) : G q = false := by
 obtain ⟨r, hr⟩ := O.pre
 refine Classical.byContradiction fun hG => ?_
 have := O.near hno (m := b.2.1.length + l.length + 1) (fun {j f} hj hf => by
  have := (List.getElem?_eq_some_iff.mp hf).1; exact om166 this hi hj) (e := b) (by erw [hr]; exact List.mem_append_left _ hb) h (by simpa using hG)
 omega
theorem a8w {l : List (Nat × Nat)} (nd : l.Nodup) (h : ∀ p ∈ l, p.1 < N /\ p.2 < N) : l.length <= N * N := by
 have h1 : (l.map fun p => p.1 * N + p.2).Nodup := by
  refine (List.pairwise_map.mpr (nd.imp_of_mem fun {a b} ha hb hab e => hab ?_))
  have a2 := (h a ha).2
  have b2 := (h b hb).2
  have e1 : a.2 = b.2 := by
   have := congrArg (· % N) e
   simp only [Nat.mul_comm _ N, Nat.mul_add_mod, Nat.mod_eq_of_lt a2, Nat.mod_eq_of_lt b2] at this
   exact this
  have e2 : a.1 = b.1 := by
   rw [e1] at e
   exact Nat.eq_of_mul_eq_mul_right (om167 a2) (Nat.add_right_cancel e)
  exact Prod.ext e2 e1
 have h2 : (l.map fun p => p.1 * N + p.2) ⊆ List.range (N * N) := fun x hx => by
  obtain ⟨p, hp, rfl⟩ := List.mem_map.mp hx
  have := Nat.mul_le_mul_right N (show p.1 + 1 <= N from (h p hp).1)
  have := (h p hp).2
  rw [List.mem_range]
  rw [Nat.add_mul, Nat.one_mul] at *
  omega
 have := List.Nodup.length_le_of_subset h1 h2
 rw [List.length_map, List.length_range] at this
 exact this
structure WqLen (s N : Nat) (t : List Nat) (bs w : List Ent) (i : Nat) : Prop where
 met : ∃ ms : List (Nat × Nat), ms.Nodup /\ (∀ p, p ∈ ms ↔ p ∈ (w.take i).map (·.1)) /\ w.length <= bs.length + ms.length * (s * s)
set_option tactic.hygienic true in
theorem c7y (bs : List Ent) : ∀ i, WqLen s N t bs (wq s N t bs i) i
 | 0 => ⟨[], List.nodup_nil, by simp, by simp [wq]⟩
 | i + 1 => by
  obtain ⟨ms, nd, hm, hl⟩ := c7y bs i
  show WqLen s N t bs (wqn s N t i (wq s N t bs i)) (i + 1)
  generalize wq s N t bs i = w at hm hl
  unfold wqn
  split
  ·rename_i hn
   have hi : w.length <= i := List.getElem?_eq_none_iff.mp hn
   exact ⟨ms, nd, by rw [List.take_of_length_le (om24 hi)]; rw [List.take_of_length_le hi] at hm; exact hm, hl⟩
  ·rename_i e he
   have htk : w.take (i + 1) = w.take i ++ [e] := by erw [List.take_add_one, he]; rfl
   split
   ·rename_i h
    refine ⟨ms, nd, fun p => ?_, hl⟩
    erw [htk, List.map_append, List.mem_append, hm]
    constructor
    ·exact .inl
    ·rintro (h1 | h1)
     ·exact h1
     ·rw [List.map_singleton, List.mem_singleton] at h1; erw [h1]; exact h
   ·rename_i h
    have hil : i + 1 <= w.length := (List.getElem?_eq_some_iff.mp he).1
    refine ⟨ms ++ [e.1], List.nodup_append.mpr ⟨nd, by simp, fun a ha b hb => by rw [List.mem_singleton] at hb; subst hb; intro hc; subst hc; exact h ((hm _).mp ha)⟩, fun p => ?_, ?_⟩
    ·erw [List.take_append_of_le_length hil, htk, List.map_append, List.mem_append, List.mem_append, hm]; rfl
    ·erw [List.length_append, List.length_append, List.length_singleton, Nat.add_mul, Nat.one_mul]
     have := b5p (s := s) (N := N) (t := t) e.1
     unfold exts
     erw [List.length_map]
     exact om168 hl this
theorem wq_few (hN : 0 < N) {bs : List Ent} (h1 : ∀ b ∈ bs, b.2.1.length = 1 /\ b.2.2.length = 1) (hb : ∀ b ∈ bs, b.1.1 < N /\ b.1.2 < N) (i : Nat) : (wq s N t bs i).length <= bs.length + N * N * (s * s) := by
 obtain ⟨ms, nd, hm, hl⟩ := c7y (s := s) (N := N) (t := t) bs i
 have O := b9g (s := s) (N := N) (t := t) h1 i
 have := a8w nd (N := N) fun p hp => by
  obtain ⟨e, he, rfl⟩ := List.mem_map.mp ((hm p).mp hp)
  refine xEAEA (O.way e (List.mem_of_mem_take he)) fun b hb2 l h ζ => ?_
  exact W2.lt hN (hb b hb2).1 (hb b hb2).2 h
 have := Nat.mul_le_mul_right (s * s) this
 exact om169 hl this
end
end Mine
end
section
namespace Mine
section
variable {s N : Nat} {t : List Nat}
noncomputable def a2c (s N : Nat) (t : List Nat) (p : Nat × Nat) : List (Nat × Nat) := (a0t s N t p).map (·.2.2)
noncomputable def addF (m fr : List (Nat × Nat)) (q : Nat × Nat) : List (Nat × Nat) := if q ∈ m ++ fr then fr else fr ++ [q]
noncomputable def rnd (s N : Nat) (t : List Nat) (m lv : List (Nat × Nat)) : List (Nat × Nat) := (lv.flatMap (a2c s N t)).foldl (addF m) []
noncomputable def dd (b : List (Nat × Nat)) : List (Nat × Nat) := b.foldl (addF []) []
noncomputable def lev (s N : Nat) (t : List Nat) (b : List (Nat × Nat)) : Nat -> List (Nat × Nat) × List (Nat × Nat)
 | 0 => (dd b, b)
 | n + 1 => ((lev s N t b n).1 ++ rnd s N t (lev s N t b n).1 (lev s N t b n).2, rnd s N t (lev s N t b n).1 (lev s N t b n).2)
theorem addF_mem {m : List (Nat × Nat)} {q : Nat × Nat} : ∀ {l fr : List (Nat × Nat)}, q ∈ l.foldl (addF m) fr ↔ q ∈ fr ∨ (q ∈ l /\ q ∉ m)
 | [], fr => by simp
 | a :: l, fr => by
  erw [List.foldl_cons, addF_mem]
  unfold addF
  by_cases h : a ∈ m ++ fr
  ·erw [if_pos h]
   constructor
   ·rintro (h1 | ⟨h1, h2⟩)
    ·exact .inl h1
    ·exact .inr ⟨by simp [h1], h2⟩
   ·rintro (h1 | ⟨h1, h2⟩)
    ·exact .inl h1
    ·rcases List.mem_cons.mp h1 with rfl | h1
     ·rcases List.mem_append.mp h with h | h
      ·exact absurd h h2
      ·exact .inl h
     ·exact .inr ⟨h1, h2⟩
  ·erw [if_neg h]
   have h3 : a ∉ m := fun hc => h (List.mem_append_left _ hc)
   constructor
   ·rintro (h1 | ⟨h1, h2⟩)
    ·rcases List.mem_append.mp h1 with h1 | h1
     ·exact .inl h1
     ·rw [List.mem_singleton] at h1; subst h1; exact .inr ⟨by simp, h3⟩
    ·exact .inr ⟨by simp [h1], h2⟩
   ·rintro (h1 | ⟨h1, h2⟩)
    ·exact .inl (List.mem_append_left _ h1)
    ·rcases List.mem_cons.mp h1 with rfl | h1
     ·exact .inl (by simp)
     ·exact .inr ⟨h1, h2⟩
theorem b2a {m : List (Nat × Nat)} : ∀ {l fr : List (Nat × Nat)}, (m ++ fr).Nodup -> (m ++ l.foldl (addF m) fr).Nodup
 | [], fr, h => h
 | a :: l, fr, h => by
  erw [List.foldl_cons]
  refine b2a ?_
  unfold addF
  by_cases h1 : a ∈ m ++ fr
  ·erw [if_pos h1]; exact h
  ·erw [if_neg h1, ← List.append_assoc]
   exact List.nodup_append.mpr ⟨h, by simp, fun x hx y hy => by rw [List.mem_singleton] at hy; subst hy; intro hc; subst hc; exact h1 hx⟩
theorem dd_mem {b : List (Nat × Nat)} {q : Nat × Nat} : q ∈ dd b ↔ q ∈ b := by
 unfold dd
 rw [addF_mem]
 simp
theorem dd_nd (b : List (Nat × Nat)) : (dd b).Nodup := by
 have := b2a (m := []) (l := b) (fr := []) List.nodup_nil
 exact this
theorem rnd_mem {m lv : List (Nat × Nat)} {q : Nat × Nat} : q ∈ rnd s N t m lv ↔ (∃ p ∈ lv, q ∈ a2c s N t p) /\ q ∉ m := by
 unfold rnd
 rw [addF_mem, List.mem_flatMap]
 simp
theorem succ_mem {p q : Nat × Nat} : q ∈ a2c s N t p ↔ ∃ a, W2 s N t p [a] q := by
 unfold a2c
 rw [List.mem_map]
 constructor
 ·rintro ⟨x, hx, rfl⟩; exact ⟨_, W2.cons hx rfl⟩
 ·rintro ⟨a, h⟩
  refine xEAA (W2.inv h) fun x hx ζ h2 => ?_
  exact ⟨x, hx, (show q = x.2.2 from h2).symm⟩
noncomputable def RN (s N : Nat) (t : List Nat) (b : List (Nat × Nat)) (n : Nat) (q : Nat × Nat) : Prop := ∃ p ∈ b, ∃ l, l.length = n /\ W2 s N t p l q
theorem RN.zero {b : List (Nat × Nat)} {q : Nat × Nat} : RN s N t b 0 q ↔ q ∈ b := by
 constructor
 ·rintro ⟨p, hp, l, hl, h⟩
  rw [List.length_eq_zero_iff.mp hl] at h
  have h : q = p := h
  subst h; exact hp
 ·intro h; exact ⟨q, h, [], rfl, rfl⟩
theorem RN.succ {b : List (Nat × Nat)} {n : Nat} {q : Nat × Nat} : RN s N t b (n + 1) q ↔ ∃ p, RN s N t b n p /\ q ∈ a2c s N t p := by
 constructor
 ·rintro ⟨p, hp, l, hl, h⟩
  rcases List.eq_nil_or_concat l with e | ⟨m, x, e⟩
  ·rw [e] at hl; simp at hl
  ·rw [e, List.concat_eq_append] at hl h
   refine xEA (W2.unapp h) fun r h1 h2 => ?_
   exact ⟨r, ⟨p, hp, m, by simpa using hl, h1⟩, succ_mem.mpr ⟨x, h2⟩⟩
 ·rintro ⟨r, ⟨p, hp, l, hl, h⟩, hq⟩
  obtain ⟨a, ha⟩ := succ_mem.mp hq
  exact ⟨p, hp, l ++ [a], by simp [hl], W2.app h ha⟩
structure LevOk (s N : Nat) (t : List Nat) (b : List (Nat × Nat)) (n : Nat) : Prop where
 lvl : ∀ q ∈ (lev s N t b n).2, RN s N t b n q /\ q ∈ (lev s N t b n).1
 met : ∀ q, q ∈ (lev s N t b n).1 ↔ ∃ m, m <= n /\ q ∈ (lev s N t b m).2
 cls : ∀ p ∈ (lev s N t b n).1, p ∉ (lev s N t b n).2 -> ∀ q ∈ a2c s N t p, q ∈ (lev s N t b n).1
 nd : (lev s N t b n).1.Nodup
theorem a3t (b : List (Nat × Nat)) : ∀ n, LevOk s N t b n
 | 0 => ⟨fun q h => ⟨RN.zero.mpr h, dd_mem.mpr h⟩, fun q => ⟨fun h => ⟨0, Nat.le_refl _, dd_mem.mp h⟩, fun ⟨m, hm, h⟩ => by
   have : m = 0 := by omega
   subst this; exact dd_mem.mpr h⟩, fun p h hn => absurd (dd_mem.mp h) hn, dd_nd b⟩
 | n + 1 => by
  have O := a3t b n
  refine ⟨fun q hq => ?_, fun q => ?_, fun p hp hn q hq => ?_, ?_⟩
  ·have h := rnd_mem.mp (show q ∈ rnd s N t _ _ from hq)
   obtain ⟨⟨p, hp, h1⟩, h2⟩ := h
   exact ⟨RN.succ.mpr ⟨p, (O.lvl p hp).1, h1⟩, List.mem_append_right _ hq⟩
  ·show q ∈ _ ++ _ ↔ _
   rw [List.mem_append, O.met]
   constructor
   ·rintro (⟨m, hm, h⟩ | h)
    ·exact ⟨m, by exact om24 hm, h⟩
    ·exact ⟨n + 1, Nat.le_refl _, h⟩
   ·rintro ⟨m, hm, h⟩
    by_cases e : m = n + 1
    ·subst e; exact .inr h
    ·exact .inl ⟨m, by exact om170 hm e, h⟩
  ·show q ∈ _ ++ _
   rcases List.mem_append.mp hp with hp | hp
   ·by_cases h1 : p ∈ (lev s N t b n).2
    ·by_cases h2 : q ∈ (lev s N t b n).1
     ·exact List.mem_append_left _ h2
     ·exact List.mem_append_right _ (rnd_mem.mpr ⟨⟨p, h1, hq⟩, h2⟩)
    ·exact List.mem_append_left _ (O.cls p hp h1 q hq)
   ·exact absurd hp hn
  ·exact b2a (by erw [List.append_nil]; exact O.nd)
theorem b5q {b : List (Nat × Nat)} : ∀ {n : Nat} {q : Nat × Nat}, RN s N t b n q -> q ∈ (lev s N t b n).1
 | 0, q, h => dd_mem.mpr (RN.zero.mp h)
 | n + 1, q, h => by
  refine xEA (RN.succ.mp h) fun p hp hq => ?_
  have h1 := b5q hp
  by_cases h2 : p ∈ (lev s N t b n).2
  ·by_cases h3 : q ∈ (lev s N t b n).1
   ·exact List.mem_append_left _ h3
   ·exact List.mem_append_right _ (rnd_mem.mpr ⟨⟨p, h2, hq⟩, h3⟩)
  ·exact List.mem_append_left _ ((a3t b n).cls p h1 h2 q hq)
theorem b5r {b : List (Nat × Nat)} {n : Nat} (h : (lev s N t b n).2 = []) : ∀ k, (lev s N t b (n + k)).2 = []
 | 0 => h
 | k + 1 => by
  show rnd s N t _ (lev s N t b (n + k)).2 = []
  erw [b5r h k]; rfl
theorem b5s {b : List (Nat × Nat)} : ∀ {n : Nat}, (lev s N t b n).2 ≠ [] -> n + 1 <= (lev s N t b n).1.length
 | 0, h => by
  obtain ⟨x, hx⟩ := List.exists_mem_of_ne_nil _ (show b ≠ [] from h)
  exact List.length_pos_of_mem (dd_mem.mpr hx)
 | n + 1, h => by
  have h1 : (lev s N t b n).2 ≠ [] := fun hc => h (b5r hc 1)
  have h2 := b5s h1
  have h3 : 0 < (rnd s N t (lev s N t b n).1 (lev s N t b n).2).length := List.length_pos_iff.mpr h
  show _ <= (_ ++ _ : List _).length
  erw [List.length_append]; exact om171 h3 h2
theorem RN.lt (hN : 0 < N) {b : List (Nat × Nat)} (hb : ∀ p ∈ b, p.1 < N /\ p.2 < N) {n : Nat} {q : Nat × Nat} : RN s N t b n q -> q.1 < N /\ q.2 < N := by
 rintro ⟨p, hp, l, _, h⟩
 exact W2.lt hN (hb p hp).1 (hb p hp).2 h
theorem c3l (hN : 0 < N) {b : List (Nat × Nat)} (hb : ∀ p ∈ b, p.1 < N /\ p.2 < N) {n : Nat} : ∀ q ∈ (lev s N t b n).1, q.1 < N /\ q.2 < N := fun q hq => by
 refine xEA (((a3t b n).met q).mp hq) fun m ζ h => ?_
 exact RN.lt hN hb ((a3t b m).lvl q h).1
theorem c3m (hN : 0 < N) {b : List (Nat × Nat)} (hb : ∀ p ∈ b, p.1 < N /\ p.2 < N) {n : Nat} : (lev s N t b n).1.length <= N * N := a8w (a3t b n).nd (c3l hN hb)
noncomputable def a0x (s N : Nat) (t : List Nat) (b : List (Nat × Nat)) (G : Nat × Nat -> Bool) : Nat := match (List.range (N * N + 1)).find? fun n => (lev s N t b n).2.any G with
 | some n => n + 1
 | none => 0
theorem c6o {p : Nat -> Bool} {M n : Nat} (hn : n < M) (h : p n = true) (h0 : ∀ m, m < n -> p m = false) : (List.range M).find? p = some n := by
 rw [List.find?_eq_some_iff_getElem]
 refine ⟨h, n, by simpa using hn, by simp, fun j hj => ?_⟩
 simp [h0 j hj]
theorem b0i {b : List (Nat × Nat)} {G : Nat × Nat -> Bool} (hN : 0 < N) (hb : ∀ p ∈ b, p.1 < N /\ p.2 < N) {n : Nat} (h : (lev s N t b n).2.any G = true) (h0 : ∀ m, m < n -> (lev s N t b m).2.any G = false) : a0x s N t b G = n + 1 := by
 unfold a0x
 have h1 : (lev s N t b n).2 ≠ [] := fun hc => by rw [hc] at h; exact dFT h
 have h2 := b5s h1
 have h3 := c3m (s := s) (t := t) hN hb (n := n)
 rw [c6o (om172 h2 h3) h h0]
theorem b9h {b : List (Nat × Nat)} {G : Nat × Nat -> Bool} {n : Nat} (h : (lev s N t b n).2 = []) (h0 : ∀ m, m < n -> (lev s N t b m).2.any G = false) : a0x s N t b G = 0 := by
 unfold a0x
 rw [List.find?_eq_none.mpr fun m ζ => ?_]
 by_cases hm : m < n
 ·simp [h0 m hm]
 ·have := b5r h (m - n)
  rw [show n + (m - n) = m by exact om173 hm] at this
  erw [this]; simp
theorem a2s (hN : 0 < N) {b : List (Nat × Nat)} {G : Nat × Nat -> Bool} (hb : ∀ p ∈ b, p.1 < N /\ p.2 < N) : a0x s N t b G = 0 ↔ ∀ n q, RN s N t b n q -> G q = false := by
 constructor
 ·intro h n q hr
  refine Classical.byContradiction fun hG => ?_
  refine xEA (((a3t b n).met q).mp (b5q hr)) fun m ζ hm => ?_
  refine xEA (least (fun k => (lev s N t b k).2.any G = true) ⟨m, List.any_eq_true.mpr ⟨q, hm, by simpa using hG⟩⟩) fun k hk hmin => ?_
  rw [b0i hN hb hk fun j hj => by
   refine Classical.byContradiction fun hc => ?_
   have := hmin j (by simpa using hc); omega] at h
  cases h
 ·intro h
  unfold a0x
  rw [List.find?_eq_none.mpr fun m ζ => ?_]
  intro hc
  refine xEA (List.any_eq_true.mp hc) fun q hq hG => ?_
  rw [h m q ((a3t b m).lvl q hq).1] at hG
  exact dFT hG
set_option tactic.hygienic true in
theorem a3u (hN : 0 < N) {b : List (Nat × Nat)} {G : Nat × Nat -> Bool} (hb : ∀ p ∈ b, p.1 < N /\ p.2 < N) {n : Nat} (h : a0x s N t b G = n + 1) : (∃ q, RN s N t b n q /\ G q = true) /\ ∀ m q, RN s N t b m q -> G q = true -> n <= m := by
 unfold a0x at h
 split at h
 ·rename_i k hk
  have e : k = n := by exact om174 h
  subst e
  rw [List.find?_eq_some_iff_getElem] at hk
  (refine xAE hk fun h1 i ε0 => ?_; obtain ⟨hi, h2, h3⟩ := ε0)
  rw [List.getElem_range] at h2
  subst h2
  refine xEA (List.any_eq_true.mp h1) fun q hq hG => ?_
  refine ⟨⟨q, ((a3t b i).lvl q hq).1, hG⟩, fun m q hr hG => Classical.byContradiction fun hc => ?_⟩
  refine xEA (((a3t b m).met q).mp (b5q hr)) fun k hk hm => ?_
  have := h3 k (om175 hk hc)
  rw [List.getElem_range] at this
  rw [List.any_eq_true.mpr ⟨q, hm, hG⟩] at this
  exact dFT this
 ·cases h
theorem RN.congr {b b' : List (Nat × Nat)} (h : ∀ p, p ∈ b ↔ p ∈ b') {n : Nat} {q : Nat × Nat} : RN s N t b n q ↔ RN s N t b' n q := by
 unfold RN
 constructor
 ·rintro ⟨p, hp, x⟩; exact ⟨p, (h p).mp hp, x⟩
 ·rintro ⟨p, hp, x⟩; exact ⟨p, (h p).mpr hp, x⟩
theorem b2b (hN : 0 < N) {b b' : List (Nat × Nat)} {G : Nat × Nat -> Bool} (h : ∀ p, p ∈ b ↔ p ∈ b') (hb : ∀ p ∈ b, p.1 < N /\ p.2 < N) : a0x s N t b G = a0x s N t b' G := by
 have hb' : ∀ p ∈ b', p.1 < N /\ p.2 < N := fun p hp => hb p ((h p).mpr hp)
 cases e : a0x s N t b' G with
 | zero =>
  rw [a2s hN hb'] at e
  rw [a2s hN hb]
  exact fun n q hq => e n q ((RN.congr h).mp hq)
 | succ n =>
  obtain ⟨⟨q, hq, hG⟩, hmin⟩ := a3u hN hb' e
  cases e2 : a0x s N t b G with
  | zero =>
   have := (a2s hN hb).mp e2 n q ((RN.congr h).mpr hq)
   rw [this] at hG; exact dFT hG
  | succ m =>
   obtain ⟨⟨q', hq', hG'⟩, hmin'⟩ := a3u hN hb e2
   have a1 := hmin m q' ((RN.congr h).mp hq') hG'
   have a2 := hmin' n q ((RN.congr h).mpr hq) hG
   have : m = n := by exact om176 a2 a1
   erw [this]
end
end Mine
end
section
namespace Mine
section
variable {s N : Nat} {t : List Nat}
theorem d0s (i : Nat) (w : List Ent) : ∃ r, wqn s N t i w = w ++ r := by
 unfold wqn
 split
 ·exact ⟨[], by simp⟩
 ·split
  ·exact ⟨[], by simp⟩
  ·exact ⟨_, rfl⟩
theorem c3n (bs : List Ent) (i : Nat) : ∀ k, ∃ r, wq s N t bs (i + k) = wq s N t bs i ++ r
 | 0 => ⟨[], by simp⟩
 | k + 1 => by
  obtain ⟨r, h⟩ := c3n bs i k
  obtain ⟨r', h'⟩ := d0s (s := s) (N := N) (t := t) (i + k) (wq s N t bs (i + k))
  exact ⟨r ++ r', by show wqn s N t (i + k) (wq s N t bs (i + k)) = _; erw [h', h, List.append_assoc]⟩
theorem c3o {bs : List Ent} {i : Nat} (h : (wq s N t bs i).length <= i) : ∀ k, wq s N t bs (i + k) = wq s N t bs i
 | 0 => rfl
 | k + 1 => by
  show wqn s N t (i + k) (wq s N t bs (i + k)) = _
  erw [c3o h k]
  unfold wqn
  rw [List.getElem?_eq_none_iff.mpr (om177 h)]
noncomputable def wres (s N : Nat) (t : List Nat) (bs : List Ent) (G : Nat × Nat -> Bool) : Option Ent := (wq s N t bs 300).find? fun e => G e.1
theorem d0t {bs : List Ent} {G : Nat × Nat -> Bool} {i : Nat} {e : Ent} (hi : i <= 300) (hno : ∀ {j : Nat} {e : Ent}, j < i -> (wq s N t bs i)[j]? = some e -> G e.1 = false) (he : (wq s N t bs i)[i]? = some e) (hG : G e.1 = true) : wres s N t bs G = some e := by
 unfold wres
 obtain ⟨r, hr⟩ := c3n (s := s) (N := N) (t := t) bs i (300 - i)
 rw [show i + (300 - i) = 300 by exact om178 hi] at hr
 erw [hr, List.find?_append]
 have : (wq s N t bs i).find? (fun e => G e.1) = some e := by
  obtain ⟨h1, h2⟩ := List.getElem?_eq_some_iff.mp he
  rw [List.find?_eq_some_iff_getElem]
  exact ⟨hG, i, h1, h2, fun j hj => by
   have := hno hj (List.getElem?_eq_getElem (Nat.lt_trans hj h1))
   simp [this]⟩
 erw [this]; rfl
theorem d0u {bs : List Ent} {G : Nat × Nat -> Bool} {i : Nat} (hi : i <= 300) (hno : ∀ {j : Nat} {e : Ent}, j < i -> (wq s N t bs i)[j]? = some e -> G e.1 = false) (he : (wq s N t bs i).length <= i) : wres s N t bs G = none := by
 unfold wres
 have := c3o he (300 - i)
 rw [show i + (300 - i) = 300 by exact om178 hi] at this
 erw [this]
 refine List.find?_eq_none.mpr fun e h => ?_
 obtain ⟨j, hj⟩ := List.mem_iff_getElem?.mp h
 have hl := (List.getElem?_eq_some_iff.mp hj).1
 simp [hno (om29 hl he) hj]
theorem a3v {bs : List Ent} (h1 : ∀ b ∈ bs, b.2.1.length = 1 /\ b.2.2.length = 1) (h3 : (wq s N t bs 300).length <= 300) {G : Nat × Nat -> Bool} {e : Ent} (h : wres s N t bs G = some e) :
  G e.1 = true /\ (∃ b ∈ bs, ∃ l, W2 s N t b.1 l e.1 /\ e.2.1 = b.2.1 ++ l.map (·.1) /\ e.2.2 = b.2.2 ++ l.map (·.2)) /\ ∀ {b : Ent} {l : List (Nat × Nat)} {q : Nat × Nat}, b ∈ bs -> W2 s N t b.1 l q -> G q = true -> e.2.1.length <= l.length + 1 := by
 unfold wres at h
 rw [List.find?_eq_some_iff_getElem] at h
 (refine xAE h fun hG i ε0 => ?_; obtain ⟨hi, he, hno⟩ := ε0)
 have O := b9g (s := s) (N := N) (t := t) h1 300
 refine ⟨hG, O.way e (he ▸ List.getElem_mem hi), ?_⟩
 intro b l q hb hw hq
 have Oi := b9g (s := s) (N := N) (t := t) h1 i
 obtain ⟨r, hr⟩ := c3n (s := s) (N := N) (t := t) bs i (300 - i)
 rw [show i + (300 - i) = 300 by exact om179 hi h3] at hr
 have hno' : ∀ {j : Nat} {e : Ent}, j < i -> (wq s N t bs i)[j]? = some e -> G e.1 = false := fun {j f} hj hf => by
  have hl := (List.getElem?_eq_some_iff.mp hf).1
  have h4 : (wq s N t bs 300)[j]? = some f := by erw [hr, List.getElem?_append_left hl]; exact hf
  obtain ⟨h5, h6⟩ := List.getElem?_eq_some_iff.mp h4
  have := hno j hj
  rw [h6] at this
  simpa using this
 by_cases h4 : i < (wq s N t bs i).length
 ·refine Oi.goal h1 hno' ?_ hb hw hq
  have : (wq s N t bs 300)[i]? = some e := List.getElem?_eq_some_iff.mpr ⟨hi, he⟩
  rw [hr, List.getElem?_append_left h4] at this
  exact this
 ·have := Oi.lost hno' (om55 h4) hb hw
  rw [this] at hq; exact dFT hq
theorem a8x {bs : List Ent} (h1 : ∀ b ∈ bs, b.2.1.length = 1 /\ b.2.2.length = 1) (h3 : (wq s N t bs 300).length <= 300) {G : Nat × Nat -> Bool} (h : wres s N t bs G = none) {b : Ent} {l : List (Nat × Nat)} {q : Nat × Nat} (hb : b ∈ bs) (hw : W2 s N t b.1 l q) : G q = false := by
 unfold wres at h
 refine (b9g (s := s) (N := N) (t := t) h1 300).lost (fun {j f} hj hf => ?_) h3 hb hw
 have := List.find?_eq_none.mp h f (List.mem_of_getElem? hf)
 simpa using this
noncomputable def begT (s N : Nat) (t : List Nat) (e : Nat) : List Ent := ((a0t s N t (e, e)).filter fun x => decide (x.1 ≠ x.2.1)).map fun x => (x.2.2, [x.1], [x.2.1])
noncomputable def diag (p : Nat × Nat) : Bool := p.1 == p.2
theorem begT_mem {e : Nat} {b : Ent} : b ∈ begT s N t e ↔ ∃ x ∈ a0t s N t (e, e), x.1 ≠ x.2.1 /\ b = (x.2.2, [x.1], [x.2.1]) := by
 unfold begT
 rw [List.mem_map]
 constructor
 ·rintro ⟨x, hx, rfl⟩
  refine xA (List.mem_filter.mp hx) fun h1 h2 => ?_
  exact ⟨x, h1, by simpa using h2, rfl⟩
 ·rintro ⟨x, hx, h, rfl⟩; exact ⟨x, List.mem_filter.mpr ⟨hx, by simpa using h⟩, rfl⟩
theorem a1k {e : Nat} : ∀ b ∈ begT s N t e, b.2.1.length = 1 /\ b.2.2.length = 1 := fun b hb => by
 obtain ⟨x, _, _, rfl⟩ := begT_mem.mp hb
 exact ⟨rfl, rfl⟩
theorem c3p (hN : 0 < N) {e : Nat} : ∀ b ∈ begT s N t e, b.1.1 < N /\ b.1.2 < N := fun b hb => by
 obtain ⟨x, hx, _, rfl⟩ := begT_mem.mp hb
 refine xAAA (stp_mem.mp hx) fun ζ ζ ζ h => ?_
 show x.2.2.1 < N /\ x.2.2.2 < N
 erw [h]; exact ⟨Nat.mod_lt _ hN, Nat.mod_lt _ hN⟩
theorem c6p {e : Nat} : (begT s N t e).length <= s * s := by
 unfold begT
 erw [List.length_map]
 exact Nat.le_trans (List.length_filter_le _ _) (b5p _)
theorem a5y (hN : 0 < N) (h16 : N * s <= 16) (hs : s <= 4) {e i : Nat} : (wq s N t (begT s N t e) i).length <= 272 := by
 have h := wq_few (s := s) (t := t) hN (bs := begT s N t e) a1k (c3p hN) i
 have h1 := c6p (s := s) (N := N) (t := t) (e := e)
 have h2 : s * s <= 4 * 4 := Nat.mul_le_mul hs hs
 have h3 : N * N * (s * s) = N * s * (N * s) := by erw [Nat.mul_mul_mul_comm]
 have h4 : N * s * (N * s) <= 16 * 16 := Nat.mul_le_mul h16 h16
 exact om180 h h1 h2 h3 h4
noncomputable def twS (s N : Nat) (t : List Nat) (best : Option (Nat × Ent)) (e : Nat) : Option (Nat × Ent) := match wres s N t (begT s N t e) diag with
 | none => best
 | some w => match best with
  | none => some (e, w)
  | some b => if w.2.1.length < b.2.2.1.length then some (e, w) else best
noncomputable def tw (s N : Nat) (t : List Nat) (n : Nat) : Option (Nat × Ent) := (List.range n).foldl (twS s N t) none
theorem b5t (n : Nat) : tw s N t (n + 1) = twS s N t (tw s N t n) n := by unfold tw; rw [List.range_succ, List.foldl_append, List.foldl_cons, List.foldl_nil]
set_option tactic.hygienic true in
theorem b2c : ∀ {n : Nat}, tw s N t n = none -> ∀ e, e < n -> wres s N t (begT s N t e) diag = none
 | 0, _, e, he => absurd he (Nat.not_lt_zero _)
 | n + 1, h, e, he => by
  rw [b5t] at h
  unfold twS at h
  split at h
  ·rename_i hw
   by_cases e1 : e = n
   ·subst e1; exact hw
   ·exact b2c h e (om119 he e1)
  ·split at h
   ·exact dSN h
   ·split at h
    ·exact dSN h
    ·rename_i hb _; exact dGN h hb
set_option tactic.hygienic true in
theorem a4v : ∀ {n : Nat} {b : Nat × Ent}, tw s N t n = some b -> b.1 < n /\ wres s N t (begT s N t b.1) diag = some b.2 /\ ∀ e w, e < n -> wres s N t (begT s N t e) diag = some w -> b.2.2.1.length <= w.2.1.length
 | 0, b, h => by exact dNS h
 | n + 1, b, h => by
  rw [b5t] at h
  unfold twS at h
  split at h
  ·rename_i hw
   refine xAA (a4v h) fun h1 h2 h3 => ?_
   refine ⟨by exact om28 h1, h2, fun e w he hw' => ?_⟩
   by_cases e1 : e = n
   ·subst e1; exact dGN hw hw'
   ·exact h3 e w (om119 he e1) hw'
  ·rename_i w hw
   split at h
   ·rename_i hb
    cases h
    refine ⟨Nat.lt_succ_self n, hw, fun e w' he hw' => ?_⟩
    by_cases e1 : e = n
    ·subst e1; rw [hw] at hw'; cases hw'; exact Nat.le_refl _
    ·rw [b2c hb e (om119 he e1)] at hw'; exact dNS hw'
   ·rename_i b' hb
    refine xAA (a4v hb) fun h1 h2 h3 => ?_
    split at h
    ·rename_i hlt
     cases h
     refine ⟨Nat.lt_succ_self n, hw, fun e w' he hw' => ?_⟩
     by_cases e1 : e = n
     ·subst e1; rw [hw] at hw'; cases hw'; exact Nat.le_refl _
     ·exact Nat.le_trans (Nat.le_of_lt hlt) (h3 e w' (om119 he e1) hw')
    ·rename_i hlt
     have e1 : b' = b := by rw [hb] at h; exact Option.some.inj h
     subst e1
     refine ⟨by exact om28 h1, h2, fun e w' he hw' => ?_⟩
     by_cases e2 : e = n
     ·subst e2; rw [hw] at hw'; cases hw'; exact om55 hlt
     ·exact h3 e w' (om119 he e2) hw'
noncomputable def begP (s N : Nat) (t : List Nat) (e : Nat) : List (Nat × Nat) := ((a0t s N t (e, e)).filter fun x => decide (x.1 ≠ x.2.1)).map fun x => x.2.2
theorem begP_mem {e : Nat} {p : Nat × Nat} : p ∈ begP s N t e ↔ ∃ x ∈ a0t s N t (e, e), x.1 ≠ x.2.1 /\ p = x.2.2 := by
 unfold begP
 rw [List.mem_map]
 constructor
 ·rintro ⟨x, hx, rfl⟩
  obtain ⟨h1, h2⟩ := List.mem_filter.mp hx
  exact ⟨x, h1, by simpa using h2, rfl⟩
 ·rintro ⟨x, hx, h, rfl⟩; exact ⟨x, List.mem_filter.mpr ⟨hx, by simpa using h⟩, rfl⟩
structure TwOk (s N : Nat) (t : List Nat) (L0 : List (Nat × Nat)) : Prop where
 mem : ∀ p, p ∈ L0 ↔ ∃ e, e < N /\ p ∈ begP s N t e
theorem TwOk.lt (hN : 0 < N) {L0 : List (Nat × Nat)} (H : TwOk s N t L0) : ∀ p ∈ L0, p.1 < N /\ p.2 < N := fun p hp => by
 refine xEA ((H.mem p).mp hp) fun e ζ h => ?_
 obtain ⟨x, hx, _, rfl⟩ := begP_mem.mp h
 refine xAAA (stp_mem.mp hx) fun ζ ζ ζ h => ?_
 erw [h]; exact ⟨Nat.mod_lt _ hN, Nat.mod_lt _ hN⟩
theorem c3q (hN : 0 < N) (h16 : N * s <= 16) (hs : s <= 4) {L0 : List (Nat × Nat)} (H : TwOk s N t L0) : a0x s N t L0 diag = 0 ↔ tw s N t N = none := by
 have few : ∀ e, (wq s N t (begT s N t e) 300).length <= 300 := fun e => Nat.le_trans (a5y hN h16 hs) (by decide)
 rw [a2s hN (H.lt hN)]
 constructor
 ·intro h
  refine Classical.byContradiction fun hn => ?_
  obtain ⟨b, hb⟩ := Option.ne_none_iff_exists'.mp hn
  refine xAA (a4v hb) fun h1 h2 ζ => ?_
  (refine xAA (a3v a1k (few _) h2) fun hG ε0 ζ => ?_; obtain ⟨c, hc, l, hw, _⟩ := ε0)
  obtain ⟨x, hx, hne, rfl⟩ := begT_mem.mp hc
  rw [h l.length b.2.1 ⟨x.2.2, (H.mem _).mpr ⟨b.1, h1, begP_mem.mpr ⟨x, hx, hne, rfl⟩⟩, l, rfl, hw⟩] at hG
  exact dFT hG
 ·rintro h n q ⟨p, hp, l, hl, hw⟩
  refine xEA ((H.mem p).mp hp) fun e he h1 => ?_
  obtain ⟨x, hx, hne, rfl⟩ := begP_mem.mp h1
  exact a8x a1k (few _) (b2c h e he) (b := (x.2.2, [x.1], [x.2.1])) (begT_mem.mpr ⟨x, hx, hne, rfl⟩) hw
theorem tw_len (hN : 0 < N) (h16 : N * s <= 16) (hs : s <= 4) {L0 : List (Nat × Nat)} (H : TwOk s N t L0) {b : Nat × Ent} (h : tw s N t N = some b) : a0x s N t L0 diag = b.2.2.1.length := by
 have few : ∀ e, (wq s N t (begT s N t e) 300).length <= 300 := fun e => Nat.le_trans (a5y hN h16 hs) (by decide)
 cases hk : a0x s N t L0 diag with
 | zero => rw [(c3q hN h16 hs H).mp hk] at h; exact dNS h
 | succ n =>
  obtain ⟨⟨q, ⟨p, hp, l, hl, hw⟩, hG⟩, hmin⟩ := a3u hN (H.lt hN) hk
  refine xAA (a4v h) fun h1 h2 h3 => ?_
  (refine xAA (a3v a1k (few _) h2) fun hG' ε0 hm' => ?_; obtain ⟨c, hc, l', hw', e1, e2⟩ := ε0)
  obtain ⟨x, hx, hne, rfl⟩ := begT_mem.mp hc
  have a1 := hmin l'.length b.2.1 ⟨x.2.2, (H.mem _).mpr ⟨b.1, h1, begP_mem.mpr ⟨x, hx, hne, rfl⟩⟩, l', rfl, hw'⟩ hG'
  have a2 : b.2.2.1.length = l'.length + 1 := by erw [e1]; simp
  refine xEA ((H.mem p).mp hp) fun e he hp1 => ?_
  obtain ⟨y, hy, hne', rfl⟩ := begP_mem.mp hp1
  have hym : (y.2.2, [y.1], [y.2.1]) ∈ begT s N t e := begT_mem.mpr ⟨y, hy, hne', rfl⟩
  cases hr : wres s N t (begT s N t e) diag with
  | none =>
   have := a8x a1k (few _) hr hym hw
   rw [this] at hG; exact dFT hG
  | some w =>
   refine xAA (a3v a1k (few _) hr) fun ζ ζ hm => ?_
   have b1 := hm hym hw hG
   have b2 := h3 e w he hr
   exact om181 hl a1 a2 b1 b2
theorem tw_dia (hN : 0 < N) (h16 : N * s <= 16) (hs : s <= 4) : tw s N t N = none ↔ ¬ Dia s N t := by
 have few : ∀ e, (wq s N t (begT s N t e) 300).length <= 300 := fun e => Nat.le_trans (a5y hN h16 hs) (by decide)
 constructor
 ·rintro h ⟨e, e', a, l, he, he', hne, hw⟩
  refine xEAA (W2.inv hw) fun x hx hxa h2 => ?_
  have h3 := a8x a1k (few _) (b2c h e he) (b := (x.2.2, [x.1], [x.2.1])) (begT_mem.mpr ⟨x, hx, by rw [← hxa] at hne; exact hne, rfl⟩) h2
  simp [diag] at h3
 ·intro h
  refine Classical.byContradiction fun hn => h ?_
  obtain ⟨b, hb⟩ := Option.ne_none_iff_exists'.mp hn
  refine xAA (a4v hb) fun h1 h2 ζ => ?_
  (refine xAA (a3v a1k (few _) h2) fun hG ε0 ζ => ?_; obtain ⟨c, hc, l, hw, _⟩ := ε0)
  obtain ⟨x, hx, hne, rfl⟩ := begT_mem.mp hc
  have hd : b.2.1.1 = b.2.1.2 := by simpa [diag] using hG
  have hw2 := W2.cons hx hw
  have hlt := W2.lt hN h1 h1 hw2
  refine ⟨b.1, b.2.1.1, (x.1, x.2.1), l, h1, hlt.1, hne, ?_⟩
  have e1 : (b.2.1.1, b.2.1.1) = b.2.1 := Prod.ext rfl hd
  erw [e1]; exact hw2
end
end Mine
end
section
namespace Mine
section
variable {s N w : Nat} {t : List Nat}
theorem c7z (hN : s ^ (w - 1) = N) {c : List Nat} {a e : Nat} (hc : c.length = w - 1) (hl : ∀ x ∈ c, x < s) (ha : a < s) (he : a1f s c = e) : ∃ y c', c ++ [a] = y :: c' /\ c'.length = w - 1 /\ (∀ x ∈ c', x < s) /\ a1f s c' = (e * s + a) % N := by
 obtain ⟨y, c', hcc⟩ : ∃ y c', c ++ [a] = y :: c' := by
  cases h : c ++ [a] with
  | nil => exact absurd h (by simp)
  | cons y c' => exact ⟨y, c', rfl⟩
 have hl' : ∀ z ∈ y :: c', z < s := fun z hz => by
  rw [← hcc] at hz
  rcases List.mem_append.mp hz with hz | hz
  ·exact hl z hz
  ·erw [List.mem_singleton.mp hz]; exact ha
 have hlen : c'.length = w - 1 := by
  have := congrArg List.length hcc
  rw [List.length_append, List.length_cons, hc] at this
  exact (Nat.succ.inj this).symm
 refine ⟨y, c', hcc, hlen, fun z hz => hl' z (.tail _ hz), ?_⟩
 have h5 : a1f s (y :: c') = e * s + a := by erw [← hcc, b0b, he]
 rw [a6l, hlen, hN] at h5
 have h6 : a1f s c' < N := by erw [← hN, ← hlen]; exact a7j fun z hz => hl' z (.tail _ hz)
 erw [← h5, Nat.mul_comm, Nat.mul_add_mod, Nat.mod_eq_of_lt h6]
theorem c3r (hw : 1 <= w) {c : List Nat} {a y : Nat} {c' r : List Nat} (hc : c.length = w - 1) (hcc : c ++ [a] = y :: c') (hlen : c'.length = w - 1) : onL s w t (c ++ a :: r) = t.getD (a1f s c * s + a) 0 :: onL s w t (c' ++ r) := by
 have erow : c ++ a :: r = y :: (c' ++ r) := by erw [← List.cons_append, ← hcc, List.append_assoc]; rfl
 erw [erow, c6e (by rw [List.length_append, hlen]; exact om182) hw]
 have etake : (y :: (c' ++ r)).take w = c ++ [a] := by
  erw [← List.cons_append, ← hcc, List.take_append_of_le_length (by rw [List.length_append, hc]; show w <= w - 1 + 1; exact om183), List.take_of_length_le (by rw [List.length_append, hc]; show w - 1 + 1 <= w; exact om184 hw)]
 erw [etake, b0b]
theorem c8a (hw : 1 <= w) (hN : s ^ (w - 1) = N) : ∀ (l : List (Nat × Nat)) (c d : List Nat) (p q : Nat × Nat), c.length = w - 1 -> d.length = w - 1 -> (∀ x ∈ c, x < s) -> (∀ x ∈ d, x < s) -> a1f s c = p.1 -> a1f s d = p.2 -> W2 s N t p l q ->
  onL s w t (c ++ l.map (·.1)) = onL s w t (d ++ l.map (·.2)) /\ a1f s ((c ++ l.map (·.1)).drop l.length) = q.1 /\ a1f s ((d ++ l.map (·.2)).drop l.length) = q.2
 | [], c, d, p, q, hc, hd, hcl, hdl, ec, ed, h => by
  have h : q = p := h
  subst h
  refine ⟨?_, ?_, ?_⟩
  ·unfold onL
   rw [List.map_nil, List.map_nil, List.append_nil, List.append_nil, hc, hd, show w - 1 + 1 - w = 0 by exact om185 hw]
   rfl
  ·erw [List.map_nil, List.append_nil]; exact ec
  ·erw [List.map_nil, List.append_nil]; exact ed
 | a :: l, c, d, p, q, hc, hd, hcl, hdl, ec, ed, h => by
  obtain ⟨ha, hb, ht, h⟩ := h
  refine b9k (c7z hN hc hcl ha ec) fun y c' hcc hc1 hc2 hc3 => ?_
  refine b9k (c7z hN hd hdl hb ed) fun z d' hdd hd1 hd2 hd3 => ?_
  refine xAA (c8a hw hN l c' d' _ q hc1 hd1 hc2 hd2 hc3 hd3 h) fun i1 i2 i3 => ?_
  have er1 : c ++ a.1 :: l.map (·.1) = y :: (c' ++ l.map (·.1)) := by erw [← List.cons_append, ← hcc, List.append_assoc]; rfl
  have er2 : d ++ a.2 :: l.map (·.2) = z :: (d' ++ l.map (·.2)) := by erw [← List.cons_append, ← hdd, List.append_assoc]; rfl
  refine ⟨?_, ?_, ?_⟩
  ·erw [List.map_cons, List.map_cons, c3r hw hc hcc hc1, c3r hw hd hdd hd1, i1, ec, ed]
   congr 1
   erw [List.getD_eq_getElem?_getD, List.getD_eq_getElem?_getD, ht]
  ·erw [List.map_cons, er1, List.length_cons, List.drop_succ_cons]; exact i2
  ·erw [List.map_cons, er2, List.length_cons, List.drop_succ_cons]; exact i3
structure Twins (s w : Nat) (t f g : List Nat) (n : Nat) : Prop where
 lf : f.length = w - 1 + n
 lg : g.length = w - 1 + n
 ne : f ≠ g
 beg : f.take (w - 1) = g.take (w - 1)
 fin : f.drop (f.length - (w - 1)) = g.drop (g.length - (w - 1))
 on : onL s w t f = onL s w t g
 sf : ∀ x ∈ f, x < s
 sg : ∀ x ∈ g, x < s
theorem c6q (hw : 1 <= w) (hs : 0 < s) (hN : s ^ (w - 1) = N) {e q : Nat} (he : e < N) {a : Nat × Nat} {l : List (Nat × Nat)} (hne : a.1 ≠ a.2) (h : W2 s N t (e, e) (a :: l) (q, q)) :
  Twins s w t (digs s (w - 1) e ++ (a :: l).map (·.1)) (digs s (w - 1) e ++ (a :: l).map (·.2)) (l.length + 1) := by
 have hdl := a5t s (w - 1) e
 have hlt := c2b hs (w - 1) e
 have hnum : a1f s (digs s (w - 1) e) = e := b8r (by erw [hN]; exact he)
 refine xAA (c8a hw hN (a :: l) _ _ (e, e) (q, q) hdl hdl hlt hlt hnum hnum h) fun i1 i2 i3 => ?_
 have hsg := W2.signs h
 have sf : ∀ x ∈ digs s (w - 1) e ++ (a :: l).map (·.1), x < s := fun x hx => by
  rcases List.mem_append.mp hx with hx | hx
  ·exact hlt x hx
  ·obtain ⟨b, hb, rfl⟩ := List.mem_map.mp hx; exact (hsg b hb).1
 have sg : ∀ x ∈ digs s (w - 1) e ++ (a :: l).map (·.2), x < s := fun x hx => by
  rcases List.mem_append.mp hx with hx | hx
  ·exact hlt x hx
  ·obtain ⟨b, hb, rfl⟩ := List.mem_map.mp hx; exact (hsg b hb).2
 have lf : (digs s (w - 1) e ++ (a :: l).map (·.1)).length = w - 1 + (l.length + 1) := by erw [List.length_append, hdl, List.length_map]; rfl
 have lg : (digs s (w - 1) e ++ (a :: l).map (·.2)).length = w - 1 + (l.length + 1) := by erw [List.length_append, hdl, List.length_map]; rfl
 refine ⟨lf, lg, fun hc => ?_, ?_, ?_, i1, sf, sg⟩
 ·have := List.append_cancel_left hc
  rw [List.map_cons, List.map_cons] at this
  exact hne (List.cons.inj this).1
 ·rw [List.take_append_of_le_length (om186 hdl), List.take_append_of_le_length (om186 hdl)]
 ·erw [lf, lg, show w - 1 + (l.length + 1) - (w - 1) = (a :: l).length by erw [List.length_cons]; exact om187]
  have l1 : ((digs s (w - 1) e ++ (a :: l).map (·.1)).drop (a :: l).length).length = w - 1 := by erw [List.length_drop, lf, List.length_cons]; exact om188
  have l2 : ((digs s (w - 1) e ++ (a :: l).map (·.2)).drop (a :: l).length).length = w - 1 := by erw [List.length_drop, lg, List.length_cons]; exact om188
  have d1 := b1n hs (l := (digs s (w - 1) e ++ (a :: l).map (·.1)).drop (a :: l).length) fun x hx => sf x (List.mem_of_mem_drop hx)
  have d2 := b1n hs (l := (digs s (w - 1) e ++ (a :: l).map (·.2)).drop (a :: l).length) fun x hx => sg x (List.mem_of_mem_drop hx)
  rw [l1, i2] at d1
  rw [l2, i3] at d2
  exact d1.symm.trans d2
theorem b2d {bs : List Ent} {G : Nat × Nat -> Bool} {e : Ent} (h : wres s N t bs G = some e) : e ∈ wq s N t bs 300 := by
 unfold wres at h
 generalize wq s N t bs 300 = w at h ⊢
 exact List.mem_of_find?_eq_some h
set_option tactic.hygienic true in
theorem c6r (hw : 1 <= w) (hs : 0 < s) (hN : s ^ (w - 1) = N) (hN0 : 0 < N) (h16 : N * s <= 16) (hs4 : s <= 4) {b : Nat × Ent} (h : tw s N t N = some b) : Twins s w t (digs s (w - 1) b.1 ++ b.2.2.1) (digs s (w - 1) b.1 ++ b.2.2.2) b.2.2.1.length /\ b.2.2.1.length <= 302 := by
 have few : (wq s N t (begT s N t b.1) 300).length <= 300 := Nat.le_trans (a5y hN0 h16 hs4) (by decide)
 refine xAA (a4v h) fun h1 h2 ζ => ?_
 (refine xAA (a3v a1k few h2) fun hG ε0 ζ => ?_; obtain ⟨c, hc, l, hww, e1, e2⟩ := ε0)
 obtain ⟨x, hx, hne, rfl⟩ := begT_mem.mp hc
 have hd : b.2.1.1 = b.2.1.2 := by simpa [diag] using hG
 have hw2 := W2.cons hx hww
 have e3 : b.2.1 = (b.2.1.1, b.2.1.1) := Prod.ext rfl hd.symm
 rw [e3] at hw2
 have T := c6q hw hs hN h1 (a := (x.1, x.2.1)) hne hw2
 have ef : b.2.2.1 = ((x.1, x.2.1) :: l).map (·.1) := e1
 have eg : b.2.2.2 = ((x.1, x.2.1) :: l).map (·.2) := e2
 erw [ef, eg]
 refine ⟨?_, ?_⟩
 ·erw [List.length_map]; exact T
 ·have key : ∀ i, ∀ e ∈ wq s N t (begT s N t b.1) i, e.2.1.length <= i + 1 := by
   intro i
   induction i with
   | zero => intro e he; erw [(a1k e he).1]; exact Nat.le_refl _
   | succ i ih =>
    intro e he
    have he : e ∈ wqn s N t i (wq s N t (begT s N t b.1) i) := he
    unfold wqn at he
    split at he
    ·have := ih e he; exact om189 this
    ·rename_i e' he'
     split at he
     ·have := ih e he; exact om189 this
     ·rcases List.mem_append.mp he with he | he
      ·have := ih e he; exact om189 this
      ·obtain ⟨x, _, rfl⟩ := List.mem_map.mp he
       have := ih e' (List.mem_of_getElem? he')
       simp only [List.length_append, List.length_singleton]
       exact om190 this
  have := key 300 b.2 (b2d h2)
  rw [ef] at this
  exact om191 this
end
end Mine
end
section
namespace Mine
section
variable {s N w : Nat} {t : List Nat}
set_option tactic.hygienic true in
theorem b4h (hN : 0 < N) : ∀ (word E : List Nat), word.foldl (a1g s N t) E = [] ↔ ∀ e ∈ E, wg s N t (fun ζ => 1) word e = 0
 | [], E => by
  show E = [] ↔ _
  constructor
  ·rintro rfl; simp
  ·intro h
   cases E with
   | nil => rfl
   | cons a E => have := h a (by simp); simp [wg] at this
 | x :: word, E => by
  erw [List.foldl_cons, b4h hN word]
  constructor
  ·intro h e he
   show sm s _ = 0
   rw [sm_eq_zero]
   intro a ha
   split
   ·rename_i ht
    exact h _ ((a4a hN).mpr ⟨e, he, a, ha, ht, rfl⟩)
   ·rfl
  ·intro h n hn
   obtain ⟨e, he, a, ha, ht, rfl⟩ := (a4a hN).mp hn
   have := sm_eq_zero.mp (h e he) a ha
   rwa [if_pos ht] at this
theorem b0j (hN : 0 < N) (word : List Nat) : b1d s N t word = [] ↔ ways s N t word = 0 := by
 unfold b1d ways
 rw [b4h hN, sm_eq_zero]
 simp only [List.mem_range]
theorem c6s (hN : 0 < N) (hN8 : N <= 8) : (a4t s N t).find? (fun p => p.1.isEmpty) = none ↔ ¬ ∃ u : List Nat, (∀ x ∈ u, x < s) /\ ways s N t u = 0 := by
 erw [c2f]
 have hG := b1j (s := s) (t := t) hN8 256
 constructor
 ·rintro h ⟨u, hu, h0⟩
  refine xEAA (c2e (s := s) (N := N) (t := t) hG u.length u rfl hu) fun q hq e ζ => ?_
  have := List.find?_eq_none.mp h q hq
  rw [e, (b0j hN u).mpr h0] at this
  exact this rfl
 ·intro h
  refine List.find?_eq_none.mpr fun p hp hc => h ?_
  have G := b1f s N t 256
  refine ⟨p.2, G.sgn p hp, ?_⟩
  erw [← b0j hN, ← G.rch p hp]
  exact List.isEmpty_iff.mp hc
theorem d0v {w : Nat} (hw : N = s ^ (w - 1)) (hs : 2 <= s) (hN : 0 < N) (hN8 : N <= 8) (h16 : N * s <= 16) (hs4 : s <= 4) (hlen : t.length = N * s) (hsg : ∀ x ∈ t, x < s) : tw s N t N = none ↔ (a4t s N t).find? (fun p => p.1.isEmpty) = none := by
 rw [tw_dia hN h16 hs4, c6s hN hN8, eden hw hs hN hlen hsg]
theorem c6t {e : Nat} : (begP s N t e).length <= s * (s - 1) := by
 unfold begP a0t
 erw [List.length_map, List.filter_flatMap]
 have : ∀ l : List Nat, (∀ a ∈ l, a < s) -> (l.flatMap fun a => (((List.range s).filter fun b => t[(e, e).1 * s + a]? == t[(e, e).2 * s + b]?).map fun b => (a, b, (((e, e).1 * s + a) % N, ((e, e).2 * s + b) % N))).filter fun x => decide (x.1 ≠ x.2.1)).length <= l.length * (s - 1) := by
  intro l
  induction l with
  | nil => intro _; simp
  | cons a l ih =>
   intro h
   erw [List.flatMap_cons, List.length_append, List.length_cons, Nat.add_mul, Nat.one_mul, Nat.add_comm]
   refine Nat.add_le_add (ih fun b hb => h b (by simp [hb])) ?_
   erw [List.filter_map, List.length_map, List.filter_filter]
   have ha := h a (by simp)
   have hlt : ((List.range s).filter fun b => ((fun x : Nat × Nat × (Nat × Nat) => decide (x.1 ≠ x.2.1)) ∘ fun b => (a, b, (((e, e).1 * s + a) % N, ((e, e).2 * s + b) % N))) b && (t[(e, e).1 * s + a]? == t[(e, e).2 * s + b]?)).length < (List.range s).length :=
    List.length_filter_lt_length_iff_exists.mpr ⟨a, List.mem_range.mpr ha, by simp⟩
   rw [List.length_range] at hlt
   exact om192 hlt
 have h := this (List.range s) fun a ha => List.mem_range.mp ha
 rw [List.length_range] at h
 exact h
noncomputable def begL (s N : Nat) (t : List Nat) (n : Nat) : List (Nat × Nat) := (List.range n).flatMap (begP s N t)
theorem a8y {n : Nat} : begL s N t (n + 1) = begL s N t n ++ begP s N t n := by
 unfold begL
 erw [List.range_succ, List.flatMap_append, List.flatMap_cons, List.flatMap_nil, List.append_nil]
theorem b2e : ∀ n, (begL s N t n).length <= n * (s * (s - 1))
 | 0 => by simp [begL]
 | n + 1 => by
  erw [a8y, List.length_append, Nat.add_mul, Nat.one_mul]
  exact Nat.add_le_add (b2e n) c6t
theorem d0w : TwOk s N t (begL s N t N) := ⟨fun p => by
 unfold begL
 rw [List.mem_flatMap]
 constructor
 ·rintro ⟨e, he, h⟩; exact ⟨e, List.mem_range.mp he, h⟩
 ·rintro ⟨e, he, h⟩; exact ⟨e, List.mem_range.mpr he, h⟩⟩
noncomputable def a5z (N : Nat) : List (Nat × Nat) := (List.range N).map fun e => (e, e)
theorem b4i (hN : 0 < N) {b : List (Nat × Nat)} (hb : ∀ p ∈ b, p.1 < N /\ p.2 < N) : a0x s N t b (fun p => decide (p ∈ a5z N)) = a0x s N t b diag := by
 have : ∀ n, (lev s N t b n).2.any (fun p => decide (p ∈ a5z N)) = (lev s N t b n).2.any diag := fun n => by
  rw [Bool.eq_iff_iff, List.any_eq_true, List.any_eq_true]
  have key : ∀ q ∈ (lev s N t b n).2, decide (q ∈ a5z N) = diag q := fun q hq => by
   have hl := c3l hN hb q ((a3t b n).lvl q hq).2
   rw [Bool.eq_iff_iff, decide_eq_true_eq]
   unfold a5z diag
   rw [List.mem_map, beq_iff_eq]
   constructor
   ·rintro ⟨e, _, rfl⟩; rfl
   ·intro h; exact ⟨q.1, List.mem_range.mpr hl.1, Prod.ext rfl h⟩
  constructor
  ·rintro ⟨q, hq, h⟩; exact ⟨q, hq, by erw [← key q hq]; exact h⟩
  ·rintro ⟨q, hq, h⟩; exact ⟨q, hq, by erw [key q hq]; exact h⟩
 unfold a0x
 erw [show (fun n => (lev s N t b n).2.any fun p => decide (p ∈ a5z N)) = fun n => (lev s N t b n).2.any diag from funext this]
end
end Mine
end
section
open PySem PyProof.Rows PySem.SeqAt
namespace Mine
noncomputable def a0f (p : Nat × Nat) : D := .tup [.int (p.1 : Int), .int (p.2 : Int)]
noncomputable def b2f (x : Nat × Nat × (Nat × Nat)) : D := .tup [.int (x.1 : Int), .int (x.2.1 : Int), a0f x.2.2]
noncomputable def a6n (x : Nat × Nat × (Nat × Nat)) : D := .tup [.int (x.2.2.1 : Int), .int (x.2.2.2 : Int), .int (x.1 : Int), .int (x.2.1 : Int)]
noncomputable def a4w (s N : Nat) (t : List Nat) (p : Nat × Nat) (a m : Nat) : List (Nat × Nat × (Nat × Nat)) := ((List.range m).filter fun b => t[p.1 * s + a]? == t[p.2 * s + b]?).map fun b => (a, b, ((p.1 * s + a) % N, (p.2 * s + b) % N))
noncomputable def stTo (s N : Nat) (t : List Nat) (p : Nat × Nat) (m : Nat) : List (Nat × Nat × (Nat × Nat)) := (List.range m).flatMap fun a => a4w s N t p a s
section
variable {s N : Nat} {t : List Nat} {p : Nat × Nat}
theorem a8z {m : Nat} : stTo s N t p (m + 1) = stTo s N t p m ++ a4w s N t p m s := by
 unfold stTo
 erw [List.range_succ, List.flatMap_append, List.flatMap_cons, List.flatMap_nil, List.append_nil]
theorem b4j {a m : Nat} (h : t[p.1 * s + a]? = t[p.2 * s + m]?) : a4w s N t p a (m + 1) = a4w s N t p a m ++ [(a, m, ((p.1 * s + a) % N, (p.2 * s + m) % N))] := by
 unfold a4w
 erw [List.range_succ, List.filter_append, List.map_append, List.filter_cons_of_pos (by simp [h])]
 rfl
theorem b8b {a m : Nat} (h : t[p.1 * s + a]? ≠ t[p.2 * s + m]?) : a4w s N t p a (m + 1) = a4w s N t p a m := by
 unfold a4w
 erw [List.range_succ, List.filter_append, List.map_append, List.filter_cons_of_neg (by simpa using h)]
 simp
theorem a6a {α β : Type} {f : α -> β} {l : List α} {x : α} : (l ++ [x]).map f = l.map f ++ [f x] := by erw [List.map_append]; rfl
theorem b4k {a m : Nat} : (a4w s N t p a m).length <= m := by
 unfold a4w
 erw [List.length_map]
 exact Nat.le_trans (List.length_filter_le _ _) (Nat.le_of_eq List.length_range)
theorem b8c : ∀ {m : Nat}, (stTo s N t p m).length <= m * s
 | 0 => Nat.zero_le _
 | m + 1 => by
  erw [a8z, List.length_append, Nat.add_mul, Nat.one_mul]
  exact Nat.add_le_add b8c b4k
end
section
variable {W : World0} {k : Nat} {s w : Nat} {t : List Nat} {p : Nat × Nat}
theorem b8d {m b : Nat} (R : OkR s w t) (hm : m < s) (hb : b <= s) (f : Nat × Nat × (Nat × Nat) -> D) {N : Nat} : ((stTo s N t p m ++ a4w s N t p m b).map f).length <= 16777216 := by
 erw [List.length_map, List.length_append]
 have h1 := b8c (s := s) (N := N) (t := t) (p := p) (m := m)
 have h2 := b4k (s := s) (N := N) (t := t) (p := p) (a := m) (m := b)
 have h3 := R.s4
 have h4 : m * s <= 4 * 4 := Nat.mul_le_mul (om193 hm h3) h3
 exact om194 hb h1 h2 h3 h4
theorem exF1 {W : World0} {k : Nat} {ss : List CS} {Q : Out → List (Option V) → List O → Prop} {α : Type} {f : α → List (Option V)} {g : α → List O} {ρ : List (Option V)} {σ : List O} (h : ∀ a, TS W k ss (f a) (g a) Q) (e : ∃ a, ρ = f a ∧ σ = g a) : TS W k ss ρ σ Q :=
 e.elim fun a e => e.1 ▸ e.2 ▸ h a
theorem exF2 {W : World0} {k : Nat} {ss : List CS} {Q : Out → List (Option V) → List O → Prop} {α β : Type} {f : α → β → List (Option V)} {g : α → β → List O} {ρ : List (Option V)} {σ : List O} (h : ∀ a b, TS W k ss (f a b) (g a b) Q) (e : ∃ a b, ρ = f a b ∧ σ = g a b) : TS W k ss ρ σ Q :=
 e.elim fun a e => e.elim fun b e => e.1 ▸ e.2 ▸ h a b
theorem exF3 {W : World0} {k : Nat} {ss : List CS} {Q : Out → List (Option V) → List O → Prop} {α β γ : Type} {f : α → β → γ → List (Option V)} {g : α → β → γ → List O} {ρ : List (Option V)} {σ : List O} (h : ∀ a b c, TS W k ss (f a b c) (g a b c) Q) (e : ∃ a b c, ρ = f a b c ∧ σ = g a b c) : TS W k ss ρ σ Q :=
 e.elim fun a e => e.elim fun b e => e.elim fun c e => e.1 ▸ e.2 ▸ h a b c
theorem exF4 {W : World0} {k : Nat} {ss : List CS} {Q : Out → List (Option V) → List O → Prop} {α β γ δ : Type} {f : α → β → γ → δ → List (Option V)} {g : α → β → γ → δ → List O} {ρ : List (Option V)} {σ : List O} (h : ∀ a b c d, TS W k ss (f a b c d) (g a b c d) Q) (e : ∃ a b c d, ρ = f a b c d ∧ σ = g a b c d) : TS W k ss ρ σ Q :=
 e.elim fun a e => e.elim fun b e => e.elim fun c e => e.elim fun d e => e.1 ▸ e.2 ▸ h a b c d
theorem exT1 {W : World0} {k : Nat} {ss : List CS} {Q : Out → List (Option V) → List O → Prop} {α : Type} {f : α → List (Option V)} {g : α → List O} {ρ : List (Option V)} {σ : List O} {i : Nat} {v : Option V} (h : ∀ a, TS W k ss ((f a).set i v) (g a) Q) (e : ∃ a, ρ = f a ∧ σ = g a) : TS W k ss (ρ.set i v) σ Q :=
 e.elim fun a e => e.1 ▸ e.2 ▸ h a
theorem exT2 {W : World0} {k : Nat} {ss : List CS} {Q : Out → List (Option V) → List O → Prop} {α β : Type} {f : α → β → List (Option V)} {g : α → β → List O} {ρ : List (Option V)} {σ : List O} {i : Nat} {v : Option V} (h : ∀ a b, TS W k ss ((f a b).set i v) (g a b) Q) (e : ∃ a b, ρ = f a b ∧ σ = g a b) : TS W k ss (ρ.set i v) σ Q :=
 e.elim fun a e => e.elim fun b e => e.1 ▸ e.2 ▸ h a b
theorem exT3 {W : World0} {k : Nat} {ss : List CS} {Q : Out → List (Option V) → List O → Prop} {α β γ : Type} {f : α → β → γ → List (Option V)} {g : α → β → γ → List O} {ρ : List (Option V)} {σ : List O} {i : Nat} {v : Option V} (h : ∀ a b c, TS W k ss ((f a b c).set i v) (g a b c) Q) (e : ∃ a b c, ρ = f a b c ∧ σ = g a b c) : TS W k ss (ρ.set i v) σ Q :=
 e.elim fun a e => e.elim fun b e => e.elim fun c e => e.1 ▸ e.2 ▸ h a b c
theorem exT4 {W : World0} {k : Nat} {ss : List CS} {Q : Out → List (Option V) → List O → Prop} {α β γ δ : Type} {f : α → β → γ → δ → List (Option V)} {g : α → β → γ → δ → List O} {ρ : List (Option V)} {σ : List O} {i : Nat} {v : Option V} (h : ∀ a b c d, TS W k ss ((f a b c d).set i v) (g a b c d) Q) (e : ∃ a b c d, ρ = f a b c d ∧ σ = g a b c d) : TS W k ss (ρ.set i v) σ Q :=
 e.elim fun a e => e.elim fun b e => e.elim fun c e => e.elim fun d e => e.1 ▸ e.2 ▸ h a b c d
theorem a3w (H : HasS W) (hf : HasF W "pair_steps" F_pair_steps) (R : OkR s w t) (h1 : p.1 < s ^ (w - 1)) (h2 : p.2 < s ^ (w - 1)) : Spec W (k + 4) "pair_steps" [.d (a0m s w t), .d (a0f p)] (.lst ((a0t s (s ^ (w - 1)) t p).map b2f)) := by
 refine Spec.intro hf rfl (TS.asgL (tape := []) (cs := []) (l := []) rfl trivial rfl (by decide)
  (TS.forR H.R.ok rfl trivial (a1r R.s1000)
   (fun a ρ σ => ∃ x y, ρ = [some (.d (a0m s w t)), some (.d (a0f p)), some (.r 0), x, y] /\ σ = [.lst ((stTo s (s ^ (w - 1)) t p a).map b2f)]) ⟨none, none, rfl, rfl⟩ (fun a ρ1 σ1 ha η => exT2 (fun x y => ?_) η) (fun ρ1 σ1 η => exF2 (fun x y => ?_) η)))
 ·refine TS.forR H.R.ok rfl trivial (a1r R.s1000)
   (fun b ρ σ => ∃ y, ρ = [some (.d (a0m s w t)), some (.d (a0f p)), some (.r 0), some (.d (.int a)), y] /\ σ = [.lst ((stTo s (s ^ (w - 1)) t p a ++ a4w s (s ^ (w - 1)) t p a b).map b2f)]) ⟨y, rfl, by erw [show a4w s (s ^ (w - 1)) t p a 0 = [] from rfl, List.append_nil]⟩ (fun b ρ1 σ1 hb η => exT1 (fun y => ?_) η) (fun ρ1 σ1 η => exF1 (fun y => ?_) η)
  ·refine xE (a8i R h1 ha) fun v hv => ?_
   refine xE (a8i R h2 hb) fun u hu => ?_
   refine TS.iteV (tape := [.int v, .int u]) (cs := [_, _]) rfl ⟨a3o H R hu, a3o H R hv, trivial⟩ (fun h => ?_) fun h => ?_
   ·cases beqN h
    refine TS.appV (tape := [.int (((p.1 * s + a) % s ^ (w - 1) : Nat) : Int), .int (((p.2 * s + b) % s ^ (w - 1) : Nat) : Int)]) (cs := [_, _]) rfl rfl (b8d R ha (Nat.le_of_lt hb) _) rfl ⟨a4s H R p.2 b, a4s H R p.1 a, trivial⟩ (TS.nil (TS.nil ⟨_, rfl, ?_⟩))
    erw [b4j (hv.trans hu.symm), ← List.append_assoc, a6a]
    rfl
   ·refine TS.nil (TS.nil ⟨_, rfl, ?_⟩)
    rw [b8b (fun hc => ?_)]
    rw [hv, hu] at hc
    exact bneN h (Option.some.inj hc)
  ·exact TS.nil ⟨_, _, rfl, by erw [a8z]⟩
 ·exact TS.retV (tape := []) (cs := []) rfl trivial rfl
end
end Mine
end
section
open PySem PyProof.Rows PySem.SeqAt
namespace Mine
section
variable {W : World0} {k : Nat} {s w : Nat} {t : List Nat} {p : Nat × Nat}
theorem a4n (hW : WOk W) (hm : HasF W "_law_many" a9m) (hf : HasF W "_law_pairs" a7q) (R : OkR s w t) (h1 : p.1 < s ^ (w - 1)) (h2 : p.2 < s ^ (w - 1)) : Spec W (k + 2) "_law_pairs" [.d (a0m s w t), .d (a0f p)] (.lst ((a0t s (s ^ (w - 1)) t p).map a6n)) := by
 refine Spec.intro hf rfl (TS.asgL (tape := []) (cs := []) (l := []) rfl trivial rfl (by decide)
  (TS.forR hW rfl trivial (a1r R.s1000)
   (fun a ρ σ => ∃ x y z u, ρ = [some (.d (a0m s w t)), some (.d (a0f p)), some (.r 0), x, y, z, u] /\ σ = [.lst ((stTo s (s ^ (w - 1)) t p a).map a6n)]) ⟨none, none, none, none, rfl, rfl⟩ (fun a ρ1 σ1 ha η => exT4 (fun x y z u => ?_) η) (fun ρ1 σ1 η => exF4 (fun x y z u => ?_) η)))
 ·refine TS.forR hW rfl trivial (a1r R.s1000)
   (fun b ρ σ => ∃ y z u, ρ = [some (.d (a0m s w t)), some (.d (a0f p)), some (.r 0), some (.d (.int a)), y, z, u] /\ σ = [.lst ((stTo s (s ^ (w - 1)) t p a ++ a4w s (s ^ (w - 1)) t p a b).map a6n)]) ⟨y, z, u, rfl, by erw [show a4w s (s ^ (w - 1)) t p a 0 = [] from rfl, List.append_nil]⟩ (fun b ρ1 σ1 hb η => exT3 (fun y z u => ?_) η) (fun ρ1 σ1 η => exF3 (fun y z u => ?_) η)
  ·refine xE (a8i R h1 ha) fun v hv => ?_
   refine xE (a8i R h2 hb) fun u' hu => ?_
   refine TS.asgV (v := .d (.int ((p.1 * s + a : Nat) : Int))) (tape := []) (cs := [_]) rfl ⟨.inr (lt64 R.s1000), trivial⟩ ?_
   refine TS.asgV (v := .d (.int ((p.2 * s + b : Nat) : Int))) (tape := []) (cs := [_]) rfl ⟨.inr (lt64 R.s1000), trivial⟩ ?_
   refine TS.iteV (tape := [.int v, .int u']) (cs := [_, _]) rfl ⟨a0p (n := p.2 * s + b) rfl R.len16 (a3n hu), a0p (n := p.1 * s + a) rfl R.len16 (a3n hv), trivial⟩ (fun h => ?_) fun h => ?_
   ·cases beqN h
    refine TS.appV (x := a6n (a, b, ((p.1 * s + a) % s ^ (w - 1), (p.2 * s + b) % s ^ (w - 1)))) (tape := [.int ((s ^ (w - 1) : Nat) : Int), .int ((s ^ (w - 1) : Nat) : Int)]) (cs := [_, _, _, _]) rfl rfl (b8d R ha (Nat.le_of_lt hb) _) ?_ ⟨a2b R.pos, a8j (k := k) hm R, a2b R.pos, a8j (k := k) hm R, trivial⟩ (TS.nil (TS.nil ⟨_, _, _, rfl, ?_⟩))
    ·unfold a6n
     erw [← a2p, ← a2p]
     rfl
    ·erw [b4j (hv.trans hu.symm), ← List.append_assoc, a6a]
     rfl
   ·refine TS.nil (TS.nil ⟨_, _, _, rfl, ?_⟩)
    rw [b8b (fun hc => ?_)]
    rw [hv, hu] at hc
    exact bneN h (Option.some.inj hc)
  ·exact TS.nil ⟨_, _, _, _, rfl, by erw [a8z]⟩
 ·exact TS.retV (tape := []) (cs := []) rfl trivial rfl
end
end Mine
end
section
open PySem PyProof.Rows PySem.SeqAt
namespace Mine
section
variable {W : World0} {k : Nat} {σ : List O} {ρ : List (Option V)} {tape : List D} {cs : List Prop}
theorem TEq.compTF {elt e c : CE} {v : V} {b : Bool} {l : List D} {n : Nat} (p : D -> Bool) (f : D -> D) (h : pv W k σ ρ e [] tape = some (v, cs, [])) (hc : AllP cs) (hs : Mine.seqV σ v = some (b, l.map V.d)) (hn : notLive v = true) (hl : l.length <= 16777216)
  (t : ∀ x ∈ l, ∃ xs, Mine.seqV σ (.d x) = some (false, xs) /\ xs.length = n /\ TCv W k c (ρ ++ xs.map some) σ (p x) /\ (p x = true -> TEq W k elt (ρ ++ xs.map some) σ (f x))) :
  TEq W k (.comp elt n false e (some c)) ρ σ (.lst ((l.filter p).map f)) :=
 TE.comp (TI.seqV h hc hs hn (by erw [List.length_map]; exact hl) ⟨fun v => match v with | .d x => (match p x with | true => some (f x) | false => none) | _ => none, fun x hx => by
  obtain ⟨j, hj, rfl⟩ := List.mem_map.mp hx
  refine b9l (t j hj) fun xs h1 h2 h3 h4 => ?_
  refine ⟨ρ ++ xs.map some, by unfold b0w; erw [h1]; exact if_pos h2, h3.to ⟨rfl, ?_⟩⟩
  cases e : p j with
  | true => exact (h4 e).to ⟨rfl, _, rfl, by simp only [e]⟩
  | false => simp only [e]; trivial, ⟨congrArg (fun z => V.d (.lst z)) (a5o (f := f) (p := p) l), rfl⟩⟩)
end
section
variable {W : World0} {k : Nat} {s w : Nat} {t : List Nat} {p : Nat × Nat}
noncomputable def c3s : D -> Bool
 | .tup [_, _, .int a, .int b] => !(a == b)
 | _ => false
noncomputable def b8e : D -> D
 | .tup [a, b, _, _] => .tup [a, b]
 | x => x
noncomputable def b5u : D -> Bool
 | .tup [.int a, .int b, _] => !(a == b)
 | _ => false
noncomputable def entOf : D -> D
 | .tup [a, b, q] => .tup [q, .lst [a], .lst [b]]
 | x => x
noncomputable def entD (e : Ent) : D := .tup [a0f e.1, .lst (a0a e.2.1), .lst (a0a e.2.2)]
theorem a6o (a b : Nat) : ((a : Int) == (b : Int)) = (a == b) := by
 by_cases h : a = b
 ·subst h; simp
 ·have : ¬ (a : Int) = (b : Int) := fun e => h (Int.ofNat.inj e)
  erw [beq_eq_false_iff_ne.mpr this, beq_eq_false_iff_ne.mpr h]
theorem b2g (R : OkR s w t) {N : Nat} : (a0t s N t p).length <= 16 := by
 have h := b5p (s := s) (N := N) (t := t) p
 have : s * s <= 4 * 4 := Nat.mul_le_mul R.s4 R.s4
 exact om195 h this
noncomputable def parP (s N : Nat) (t : List Nat) (p : Nat × Nat) : List (Nat × Nat) := ((a0t s N t p).filter fun x => decide (x.1 ≠ x.2.1)).map fun x => x.2.2
theorem c3t {N : Nat} : (((a0t s N t p).map a6n).filter c3s).map b8e = (parP s N t p).map a0f := by
 unfold parP
 erw [List.filter_map, List.map_map, List.map_map]
 congr 1
 refine List.filter_congr fun x ζ => ?_
 show (!((x.1 : Int) == (x.2.1 : Int))) = _
 erw [a6o]
 by_cases h : x.1 = x.2.1 <;> simp [h]
theorem a9a (hW : WOk W) (hm : HasF W "_law_many" a9m) (hf : HasF W "_law_pairs" a7q) (hp : HasF W "_law_parted" b0m) (R : OkR s w t) (h1 : p.1 < s ^ (w - 1)) (h2 : p.2 < s ^ (w - 1)) : Spec W (k + 3) "_law_parted" [.d (a0m s w t), .d (a0f p)] (.lst ((parP s (s ^ (w - 1)) t p).map a0f)) := by
 have tc := TEq.compF (W := W) (k := k + 2) (σ := []) (ρ := [some (.d (a0m s w t)), some (.d (a0f p))]) (elt := .slice (.var 2) none (some (.int 2))) (c := .cmp .NotEq (.sub (.var 2) (.int 2)) (.sub (.var 2) (.int 3))) (e := .call "_law_pairs" [(.var 0), (.var 1)]) c3s b8e (tape := [.lst ((a0t s (s ^ (w - 1)) t p).map a6n)]) (cs := [_]) (b := true) (l := (a0t s (s ^ (w - 1)) t p).map a6n) rfl ⟨a4n (k := k) hW hm hf R h1 h2, trivial⟩ rfl rfl (by erw [List.length_map]; exact Nat.le_trans (b2g R) (by decide))
  (fun x hx => by
   obtain ⟨y, _, rfl⟩ := List.mem_map.mp hx
   exact TCv.ev (tape := []) (cs := []) rfl trivial)
  (fun x hx ζ => by
   obtain ⟨y, _, rfl⟩ := List.mem_map.mp hx
   exact TEq.slTo (b := 2) (l := [.int (y.2.2.1 : Int), .int (y.2.2.2 : Int), .int (y.1 : Int), .int (y.2.1 : Int)]) (TEq.ev (tape := []) (cs := []) rfl trivial) (TEq.ev (tape := []) (cs := []) rfl trivial) (show 2 <= 4 by decide) (show 4 <= 16777216 by decide))
 rw [c3t] at tc
 exact Spec.intro hp rfl (TS.retV (tape := [.lst ((parP s (s ^ (w - 1)) t p).map a0f)]) (cs := [_]) rfl ⟨tc, trivial⟩ rfl)
theorem d0x {N e : Nat} : (((a0t s N t (e, e)).map b2f).filter b5u).map entOf = (begT s N t e).map entD := by
 unfold begT
 erw [List.filter_map, List.map_map, List.map_map]
 have hf : List.filter (b5u ∘ b2f) (a0t s N t (e, e)) = List.filter (fun x => decide (x.1 ≠ x.2.1)) (a0t s N t (e, e)) := List.filter_congr fun x ζ => by
  show (!((x.1 : Int) == (x.2.1 : Int))) = _
  erw [a6o]
  by_cases h : x.1 = x.2.1 <;> simp [h]
 erw [hf]
 rfl
theorem a7e (H : HasS W) (hs : HasF W "pair_steps" F_pair_steps) (hf : HasF W "parted_from" F_parted_from) (R : OkR s w t) {e : Nat} (he : e < s ^ (w - 1)) : Spec W (k + 5) "parted_from" [.d (a0m s w t), .d (.int (e : Int))] (.lst ((begT s (s ^ (w - 1)) t e).map entD)) := by
 have tc := TEq.compTF (W := W) (k := k + 4) (σ := []) (ρ := [some (.d (a0m s w t)), some (.d (.int (e : Int)))]) (n := 3) (elt := .tup [(.var 4), (.lst [(.var 2)]), (.lst [(.var 3)])]) (c := .cmp .NotEq (.var 2) (.var 3)) (e := .call "pair_steps" [(.var 0), (.tup [(.var 1), (.var 1)])]) b5u entOf (tape := [.lst ((a0t s (s ^ (w - 1)) t (e, e)).map b2f)]) (cs := [_]) (b := true) (l := (a0t s (s ^ (w - 1)) t (e, e)).map b2f) rfl ⟨a3w (k := k) H hs R (p := (e, e)) he he, trivial⟩ rfl rfl (by erw [List.length_map]; exact Nat.le_trans (b2g R) (by decide))
  (fun x hx => by
   obtain ⟨y, _, rfl⟩ := List.mem_map.mp hx
   exact ⟨[.d (.int (y.1 : Int)), .d (.int (y.2.1 : Int)), .d (a0f y.2.2)], rfl, rfl, TCv.ev (tape := []) (cs := []) rfl trivial, fun ζ => TEq.ev (tape := []) (cs := []) rfl trivial⟩)
 rw [d0x] at tc
 exact Spec.intro hf rfl (TS.retV (tape := [.lst ((begT s (s ^ (w - 1)) t e).map entD)]) (cs := [_]) rfl ⟨tc, trivial⟩ rfl)
theorem b5v (hf : HasF W "is_one" F_is_one) (p : Nat × Nat) : Spec W (k + 1) "is_one" [.d (a0f p)] (.bool (diag p)) :=
 Spec.intro hf rfl (TS.retV (tape := []) (cs := []) rfl trivial (by
  show some (D.bool ((p.1 : Int) == (p.2 : Int))) = _
  erw [a6o]; rfl))
end
end Mine
end
section
open PySem PyProof.Rows PySem.SeqAt
namespace Mine
section
variable {s N : Nat} {t : List Nat}
set_option tactic.hygienic true in
theorem a7o {bs : List Ent} (h1 : ∀ b ∈ bs, b.2.1.length = 1 /\ b.2.2.length = 1) : ∀ i, ∀ e ∈ wq s N t bs i, e.2.1.length <= i + 1 /\ e.2.2.length <= i + 1
 | 0, e, he => by erw [(h1 e he).1, (h1 e he).2]; exact ⟨Nat.le_refl _, Nat.le_refl _⟩
 | i + 1, e, he => by
  have ih := a7o h1 i
  have he : e ∈ wqn s N t i (wq s N t bs i) := he
  unfold wqn at he
  split at he
  ·have := ih e he; exact om196 this
  ·rename_i e' he'
   split at he
   ·have := ih e he; exact om196 this
   ·rcases List.mem_append.mp he with he | he
    ·have := ih e he; exact om196 this
    ·obtain ⟨x, _, rfl⟩ := List.mem_map.mp he
     have := ih e' (List.mem_of_getElem? he')
     simp only [List.length_append, List.length_singleton]
     exact om197 this
theorem wq_lt (hN : 0 < N) {bs : List Ent} (h1 : ∀ b ∈ bs, b.2.1.length = 1 /\ b.2.2.length = 1) (hb : ∀ b ∈ bs, b.1.1 < N /\ b.1.2 < N) (i : Nat) : ∀ e ∈ wq s N t bs i, e.1.1 < N /\ e.1.2 < N := fun e he => by
 refine xEAEA ((b9g (s := s) (N := N) (t := t) h1 i).way e he) fun b hb2 l h ζ => ?_
 exact W2.lt hN (hb b hb2).1 (hb b hb2).2 h
theorem wq_old {bs : List Ent} {i : Nat} {e : Ent} (he : (wq s N t bs i)[i]? = some e) (h : e.1 ∈ ((wq s N t bs i).take i).map (·.1)) : wq s N t bs (i + 1) = wq s N t bs i := by
 show wqn s N t i (wq s N t bs i) = _
 unfold wqn
 erw [he]
 show (if _ then _ else _) = _
 erw [if_pos h]
theorem wq_new {bs : List Ent} {i : Nat} {e : Ent} (he : (wq s N t bs i)[i]? = some e) (h : e.1 ∉ ((wq s N t bs i).take i).map (·.1)) : wq s N t bs (i + 1) = wq s N t bs i ++ exts s N t e := by
 show wqn s N t i (wq s N t bs i) = _
 unfold wqn
 erw [he]
 show (if _ then _ else _) = _
 erw [if_neg h]
end
noncomputable def mkP (p : Nat × Nat) : List Nat × List Nat := ([p.1, p.2], [])
noncomputable def a9i (o : Option Ent) : D := match o with
 | some e => entD e
 | none => .none
theorem mkP_mem {ms : List (Nat × Nat)} {p : Nat × Nat} : [p.1, p.2] ∈ (ms.map mkP).map (·.1) ↔ p ∈ ms := by
 erw [List.map_map]
 constructor
 ·intro h
  refine xEA (List.mem_map.mp h) fun q hq e => ?_
  have e : [q.1, q.2] = [p.1, p.2] := e
  simp at e
  have : q = p := Prod.ext e.1 e.2
  erw [← this]; exact hq
 ·intro h; exact List.mem_map.mpr ⟨p, h, rfl⟩
section
variable {W : World0} {k : Nat} {σ : List O} {ρ : List (Option V)}
theorem TEv.callv {i : Nat} {f : String} {es : List CE} {vs args : List V} {x : D} (hne : es ≠ []) (hi : ρ[i]? = some (some (.d (.fn f)))) (t : TEsv W k es ρ σ vs) (ha : ArgsOk σ vs args) (s : Spec W k f args x) : TEv W k (.callv i es) ρ σ (.d x) := by
 obtain ⟨cf, hf, F⟩ := s
 exact TE.callv hf hne (.inl hi) (t.to ⟨args, _, ha, F, fun r h => ⟨congrArg V.d h, rfl⟩⟩)
variable {s w : Nat} {t : List Nat}
noncomputable def wE (s w : Nat) (t : List Nat) (bs : List Ent) (f : String) (i : Int) (a b c d e g : Option V) : List (Option V) := [some (.d (a0m s w t)), some (.d (.lst (bs.map entD))), some (.d (.fn f)), some (.r 0), some (.r 1), some (.d (.int i)), a, b, c, d, e, g]
noncomputable def wS (ms : List (Nat × Nat)) (l : List Ent) : List O := [.dT (metD (ms.map mkP)), .lst (l.map entD)]
theorem b4l (H : HasS W) (hs : HasF W "pair_steps" F_pair_steps) (hf : HasF W "walked" F_walked) (R : OkR s w t) {bs : List Ent} (h1 : ∀ b ∈ bs, b.2.1.length = 1 /\ b.2.2.length = 1) (hb : ∀ b ∈ bs, b.1.1 < s ^ (w - 1) /\ b.1.2 < s ^ (w - 1)) (hfew : ∀ i, (wq s (s ^ (w - 1)) t bs i).length <= 272)
  {f : String} {G : Nat × Nat -> Bool} (hg : ∀ p : Nat × Nat, Spec W (k + 4) f [.d (a0f p)] (.bool (G p))) : Spec W (k + 5) "walked" [.d (a0m s w t), .d (.lst (bs.map entD)), .d (.fn f)] (a9i (wres s (s ^ (w - 1)) t bs G)) := by
 have hN := R.pos
 generalize hNe : s ^ (w - 1) = N at hb hfew hN ⊢
 have hbl : bs.length <= 272 := hfew 0
 refine Spec.intro hf rfl (TS.cons (TS1.asg (TE.dct0 (.dT []) (.inr rfl) (TS.cons (TS1.asg (TE.listCopy H.R.ok (TE.var (val := .d (.lst (bs.map entD))) rfl ⟨bs.map entD, rfl, by erw [List.length_map]; exact om198 hbl, TS.asgV (tape := []) (cs := []) rfl trivial
  (TS.whileV (fun n ρ σ => ∃ (i : Nat) (ms : List (Nat × Nat)) (x6 x7 x8 x9 x10 x11 : Option V), n = 301 - i /\ i <= (wq s N t bs i).length /\ (∀ {j : Nat} {e : Ent}, j < i -> (wq s N t bs i)[j]? = some e -> G e.1 = false) /\ (∀ p, p ∈ ms ↔ p ∈ ((wq s N t bs i).take i).map (·.1)) /\ ms.length <= i /\
   ρ = (wE s w t bs f i x6 x7 x8 x9 x10 x11) /\ σ = (wS ms (wq s N t bs i)))
   301 ⟨0, [], none, none, none, none, none, none, rfl, Nat.zero_le _, fun hj => absurd hj (Nat.not_lt_zero _), by simp, Nat.le_refl _, rfl, rfl⟩ ?_)⟩)))))))
 rintro n _ _ ⟨i, ms, x6, x7, x8, x9, x10, x11, rfl, hi, hno, hms, hml, rfl, rfl⟩
 have hG := hfew i
 have hGm : ((wq s N t bs i).map entD).length = (wq s N t bs i).length := List.length_map _
 refine ⟨_, TCv.ev (tape := [.int (((wq s N t bs i).map entD).length : Int)]) (cs := [_]) rfl ⟨TEq.len H.R.ok (tape := []) (cs := []) rfl trivial rfl rfl (by erw [hGm]; exact om198 hG), trivial⟩, fun hd => ?_, fun hd => ?_⟩
 ·rw [hGm, decide_eq_true_eq, Int.ofNat_lt] at hd
  obtain ⟨e, he⟩ : ∃ e, (wq s N t bs i)[i]? = some e := ⟨_, List.getElem?_eq_getElem hd⟩
  have hem := List.mem_of_getElem? he
  have hlt := wq_lt hN h1 hb i e hem
  have hsh := a7o h1 i e hem
  refine TS.asgTV (l := [.d (a0f e.1), .d (.lst (a0a e.2.1)), .d (.lst (a0a e.2.2))]) (tape := [entD e]) (cs := [_]) rfl ⟨a0p (l := (wq s N t bs i).map entD) rfl (by erw [hGm]; exact om198 hG) (by erw [List.getElem?_map, he]; rfl), trivial⟩ rfl rfl (TS.asgV (v := .d (.int ((i + 1 : Nat) : Int))) (tape := []) (cs := []) rfl trivial ?_)
  have tg : TEv W (k + 4) (.callv 2 [(.var 6)]) (wE s w t bs f ((i + 1 : Nat) : Int) (some (.d (a0f e.1))) (some (.d (.lst (a0a e.2.1)))) (some (.d (.lst (a0a e.2.2)))) x9 x10 x11) (wS ms (wq s N t bs i)) (.d (.bool (G e.1))) :=
   TEv.callv (by intro h; exact dCN h) rfl (TEsv.cons (TE.var rfl ⟨rfl, rfl⟩) ⟨rfl, rfl⟩) (.cons (.d _) .nil) (hg e.1)
  refine TS.iteC (TCv.of tg rfl) (fun hgt => TS.retV (tape := []) (cs := []) rfl trivial ?_) fun hgf => TS.nil ?_
  ·erw [d0t (om199 hd hG) hno he hgt]; rfl
  refine TS.iteC (TCv.cmp (TEv.ev (tape := []) (cs := []) rfl trivial) (TEv.ev (tape := []) (cs := []) rfl trivial) (.notInDT (ks := keyZ [e.1.1, e.1.2]) rfl rfl)) (fun h => ?_) fun h => ?_
  ·rw [a2q, Bool.not_eq_true', decide_eq_false_iff_not, mkP_mem] at h
   have hnew : e.1 ∉ ((wq s N t bs i).take i).map (·.1) := fun hc => h ((hms _).mpr hc)
   have hmp : put (metD (ms.map mkP)) (keyZ [e.1.1, e.1.2]) (.bool true) = metD ((ms ++ [e.1]).map mkP) := by
    erw [b1g (q := []) (fun hc => h (mkP_mem.mp hc)), List.map_append]; rfl
   have hwn := wq_new he hnew
   have hlen1 := hfew (i + 1)
   rw [hwn, List.length_append] at hlen1
   have hex : (exts s N t e).length = (a0t s N t e.1).length := by unfold exts; erw [List.length_map]
   refine TS.putV (tape := []) (tape2 := []) (tape3 := []) (cs := []) (cs2 := []) (cs3 := []) rfl trivial rfl trivial rfl trivial (.dT (i := keyZ [e.1.1, e.1.2]) rfl rfl (by unfold metD; erw [List.length_map, List.length_map]; exact om200 hml hd hG)) ?_
   erw [hmp]
   refine TS.forTS (tape := [.lst ((a0t s N t e.1).map b2f)]) (cs := [_]) (c := true) (l := ((a0t s N t e.1).map b2f).map V.d) rfl ⟨by have := a3w (k := k) H hs R (p := e.1) (by erw [hNe]; exact hlt.1) (by erw [hNe]; exact hlt.2); rw [hNe] at this; exact this, trivial⟩ rfl rfl (by erw [List.length_map, List.length_map]; exact Nat.le_trans (b2g R) (by decide))
    (fun j ρ σ => ∃ x9 x10 x11, ρ = (wE s w t bs f ((i + 1 : Nat) : Int) (some (.d (a0f e.1))) (some (.d (.lst (a0a e.2.1)))) (some (.d (.lst (a0a e.2.2)))) x9 x10 x11) /\ σ = (wS (ms ++ [e.1]) (wq s N t bs i ++ (exts s N t e).take j)))
    ⟨x9, x10, x11, rfl, by erw [List.take_zero, List.append_nil]; rfl⟩ (fun j x ρ1 σ1 hx ⟨x9, x10, x11, e1, e2⟩ => ?_) (fun ρ1 σ1 ⟨x9, x10, x11, e1, e2⟩ => ?_)
   ·subst e1 e2
    rw [List.getElem?_map, List.getElem?_map] at hx
    obtain ⟨y, hy, rfl⟩ := Option.map_eq_some_iff.mp hx
    obtain ⟨z, hz, rfl⟩ := Option.map_eq_some_iff.mp hy
    refine ⟨[.d (.int (z.1 : Int)), .d (.int (z.2.1 : Int)), .d (a0f z.2.2)], rfl, rfl, ?_⟩
    refine TS.appV (l := (wq s N t bs i ++ (exts s N t e).take j).map entD) (tape := []) (cs := [_, _]) rfl rfl (by
     erw [List.length_map, List.length_append, List.length_take]; exact om201 hlen1) rfl ⟨by erw [a0e]; show _ + 1 <= _; exact om202 hd hG hsh, by erw [a0e]; show _ + 1 <= _; exact om203 hsh hd hG, trivial⟩ (TS.nil ⟨_, _, _, rfl, ?_⟩)
    ·have : (exts s N t e).take (j + 1) = (exts s N t e).take j ++ [(z.2.2, e.2.1 ++ [z.1], e.2.2 ++ [z.2.1])] := by
      erw [List.take_add_one]
      have : (exts s N t e)[j]? = some (z.2.2, e.2.1 ++ [z.1], e.2.2 ++ [z.2.1]) := by unfold exts; erw [List.getElem?_map, hz]; rfl
      erw [this]; rfl
     unfold wS
     erw [this, ← List.append_assoc, a6a (f := entD)]
     show _ = [_, O.lst (_ ++ [D.tup [_, .lst (a0a (_ ++ [_])), .lst (a0a (_ ++ [_]))]])]
     erw [← a6h, ← a6h]
     rfl
   ·subst e1 e2
    erw [List.length_map, List.length_map, ← hex, List.take_length]
    refine TS.nil (TS.nil ⟨301 - (i + 1), by exact om204 hd hG, i + 1, ms ++ [e.1], some (.d (a0f e.1)), some (.d (.lst (a0a e.2.1))), some (.d (.lst (a0a e.2.2))), x9, x10, x11, rfl, ?_, ?_, ?_, ?_, rfl, by erw [hwn]⟩)
    ·erw [hwn, List.length_append]; exact om205 hd
    ·intro j e' hj hej
     rw [hwn] at hej
     by_cases hji : j < i
     ·rw [List.getElem?_append_left (om206 hji hd)] at hej
      exact hno hji hej
     ·have : j = i := by exact om161 hj hji
      subst this
      rw [List.getElem?_append_left hd, he] at hej
      cases hej; exact hgf
    ·intro p
     erw [hwn, List.take_append_of_le_length (om4 hd), List.take_add_one, he, List.map_append, List.mem_append, List.mem_append, hms p]
     rfl
    ·erw [List.length_append]; show _ + 1 <= _; exact om139 hml
  ·rw [a2q, Bool.not_eq_false', decide_eq_true_eq, mkP_mem] at h
   have hold := (hms _).mp h
   have hwo := wq_old he hold
   refine TS.nil (TS.nil ⟨301 - (i + 1), by exact om204 hd hG, i + 1, ms, some (.d (a0f e.1)), some (.d (.lst (a0a e.2.1))), some (.d (.lst (a0a e.2.2))), x9, x10, x11, rfl, ?_, ?_, ?_, by exact om24 hml, rfl, by erw [hwo]⟩)
   ·erw [hwo]; exact om4 hd
   ·intro j e' hj hej
    rw [hwo] at hej
    by_cases hji : j < i
    ·exact hno hji hej
    ·have : j = i := by exact om161 hj hji
     subst this
     rw [he] at hej
     cases hej; exact hgf
   ·intro p
    erw [hwo, List.take_add_one, he, List.map_append, List.mem_append, hms p]
    constructor
    ·exact .inl
    ·rintro (h' | h')
     ·exact h'
     ·have : p = e.1 := by simpa using h'
      erw [this]; exact hold
 ·rw [hGm, decide_eq_false_iff_not, Int.ofNat_lt] at hd
  refine TS.retV (tape := []) (cs := []) rfl trivial ?_
  erw [d0u (om207 hi hG) hno (om55 hd)]
  rfl
end
end Mine
end
section
open PySem PyProof.Rows PySem.SeqAt
namespace Mine
noncomputable def zP (p : Nat × Nat) : Int × Int := ((p.1 : Int), (p.2 : Int))
theorem b8f (p q : Nat × Nat) : eqD (a0f p) (a0f q) = decide (p = q) := by
 show (((p.1 : Int) == (q.1 : Int)) && (((p.2 : Int) == (q.2 : Int)) && true)) = _
 erw [a6o, a6o, Bool.and_true]
 rw [Bool.eq_iff_iff, Bool.and_eq_true, beq_iff_eq, beq_iff_eq, decide_eq_true_eq, Prod.ext_iff]
theorem b8g (l : List (Nat × Nat)) (p : Nat × Nat) : ((l.map a0f).any fun y => eqD y (a0f p)) = decide (p ∈ l) := by
 erw [List.any_map, Bool.eq_iff_iff, List.any_eq_true, decide_eq_true_eq]
 constructor
 ·rintro ⟨x, hx, h⟩
  have h : eqD (a0f x) (a0f p) = true := h
  rw [b8f, decide_eq_true_eq] at h
  erw [← h]; exact hx
 ·intro h
  exact ⟨p, h, by show eqD (a0f p) (a0f p) = true; erw [b8f]; simp⟩
theorem a4x : ∀ l : List (Nat × Nat), a0r (l.map a0f) = true
 | [] => rfl
 | p :: l => by
  show (a0q (a0f p) && a0r (l.map a0f)) = true
  erw [a4x l]; rfl
theorem a9b : ∀ l : List (Nat × Nat), deps (l.map a0f) <= 1
 | [] => Nat.zero_le _
 | p :: l => by
  show max (dep (a0f p)) (deps (l.map a0f)) <= 1
  have := a9b l
  have e : dep (a0f p) = 1 := rfl
  exact om208 e this
theorem c6u {fs : List (List Nat × List Nat)} {e : List Nat} (h : e ∈ fs.map (·.1)) : put (metD fs) (keyZ e) (.bool true) = metD fs := by
 have hk : (lk (metD fs) (keyZ e)).isSome = true := by erw [a2q]; simpa using h
 unfold put
 erw [if_pos hk]
 unfold metD
 erw [List.map_map]
 refine List.map_congr_left fun p ζ => ?_
 show (if _ then _ else _) = _
 split
 ·rfl
 ·rfl
theorem b5w : ∀ (b fr : List (Nat × Nat)), (b.map zP).foldl (fun l p => put l (keyP p) (.bool true)) (metD (fr.map mkP)) = metD ((b.foldl (addF []) fr).map mkP)
 | [], fr => rfl
 | q :: b, fr => by
  rw [List.map_cons, List.foldl_cons, List.foldl_cons]
  have hk : keyP (zP q) = keyZ [q.1, q.2] := rfl
  erw [hk]
  by_cases h : q ∈ fr
  ·have e : addF [] fr q = fr := by unfold addF; erw [if_pos (by simpa using h)]
   erw [e, c6u (mkP_mem.mpr h)]
   exact b5w b fr
  ·have e : addF [] fr q = fr ++ [q] := by unfold addF; erw [if_neg (by simpa using h)]
   erw [e, b1g (q := []) (fun hc => h (mkP_mem.mp hc))]
   have := b5w b (fr ++ [q])
   rw [List.map_append] at this
   exact this
theorem dlP_dd (b : List (Nat × Nat)) : dlP (b.map zP) = metD ((dd b).map mkP) := b5w b []
theorem b8h (l : List (Nat × Nat)) : eqD (.lst (l.map a0f)) (.lst []) = l.isEmpty := by cases l <;> rfl
theorem b0k : ∀ {l : List (Nat × Nat)} {qs : List (Int × Int)}, (∀ p ∈ qs, p ∈ l.map zP) -> ∃ m : List (Nat × Nat), qs = m.map zP /\ ∀ p ∈ m, p ∈ l
 | l, [], _ => ⟨[], rfl, fun p hp => by cases hp⟩
 | l, q :: qs, h => by
  refine xEA (b0k (l := l) (qs := qs) fun p hp => h p (List.mem_cons_of_mem _ hp)) fun m e hm => ?_
  obtain ⟨p, hp, rfl⟩ := List.mem_map.mp (h q List.mem_cons_self)
  exact ⟨p :: m, by erw [e]; rfl, fun x hx => by
   rcases List.mem_cons.mp hx with rfl | hx
   ·exact hp
   ·exact hm x hx⟩
theorem zP_inj {p q : Nat × Nat} (h : zP p = zP q) : p = q := by
 unfold zP at h
 have h1 := congrArg Prod.fst h
 have h2 := congrArg Prod.snd h
 exact Prod.ext (Int.ofNat.inj h1) (Int.ofNat.inj h2)
noncomputable def frsh (m l : List (Nat × Nat)) : List (Nat × Nat) := l.foldl (addF m) []
theorem b4m {m l : List (Nat × Nat)} {q : Nat × Nat} : frsh m (l ++ [q]) = addF m (frsh m l) q := by
 unfold frsh
 erw [List.foldl_append]; rfl
theorem c6v {m l : List (Nat × Nat)} {q : Nat × Nat} (h : q ∈ m ++ frsh m l) : frsh m (l ++ [q]) = frsh m l := by
 erw [b4m]
 exact if_pos h
theorem b8i {m l : List (Nat × Nat)} {q : Nat × Nat} (h : q ∉ m ++ frsh m l) : frsh m (l ++ [q]) = frsh m l ++ [q] := by
 erw [b4m]
 exact if_neg h
theorem c6w {N : Nat} {m l : List (Nat × Nat)} (nd : m.Nodup) (hm : ∀ p ∈ m, p.1 < N /\ p.2 < N) (hl : ∀ p ∈ l, p.1 < N /\ p.2 < N) : (m ++ frsh m l).length <= N * N := by
 refine a8w (b2a (by erw [List.append_nil]; exact nd)) fun p hp => ?_
 rcases List.mem_append.mp hp with hp | hp
 ·exact hm p hp
 ·rcases addF_mem.mp hp with hp | hp
  ·cases hp
  ·exact hl p hp.1
end Mine
end
section
open PySem PyProof.Rows PySem.SeqAt
namespace Mine
section
variable {W : World0} {k : Nat} {s w : Nat} {t : List Nat}
noncomputable def rS (s w : Nat) (t : List Nat) (bg gs lv : List (Nat × Nat)) (x4 : Option V) (n : Nat) (x7 x8 : Option V) : List (Option V) := [some (.d (a0m s w t)), some (.d (.lst (bg.map a0f))), some (.d (.lst (gs.map a0f))), some (.d (.lst (lv.map a0f))), x4, some (.r 0), some (.d (.int ((n + 1 : Nat) : Int))), x7, x8]
theorem a6p (hW : WOk W) (hm : HasF W "_law_many" a9m) (hf : HasF W "_law_pairs" a7q) (hs : HasF W "_law_steps_to" a6c) (R : OkR s w t) {bg gs : List (Nat × Nat)} (hbl : bg.length < 60) (hgl : gs.length <= 1000) (hb : ∀ p ∈ bg, p.1 < s ^ (w - 1) /\ p.2 < s ^ (w - 1)) :
  Spec W (k + 3) "_law_steps_to" [.d (a0m s w t), .d (.lst (bg.map a0f)), .d (.lst (gs.map a0f))] (.int ((a0x s (s ^ (w - 1)) t bg (fun p => decide (p ∈ gs)) : Nat) : Int)) := by
 have hN := R.pos
 have hN8 := R.n8
 have hps : ∀ p : Nat × Nat, p.1 < s ^ (w - 1) -> p.2 < s ^ (w - 1) -> Spec W (k + 2) "_law_pairs" [.d (a0m s w t), .d (a0f p)] (.lst ((a0t s (s ^ (w - 1)) t p).map a6n)) := fun p h1 h2 => a4n hW hm hf R h1 h2
 generalize hNe : s ^ (w - 1) = N at hN hN8 hb hps ⊢
 have hNN : N * N <= 64 := Nat.mul_le_mul hN8 hN8
 generalize hG : (fun p : Nat × Nat => decide (p ∈ gs)) = G
 have hGp : ∀ p, decide (p ∈ gs) = G p := fun p => by erw [← hG]
 refine Spec.intro hs rfl (TS.cons (TS1.asg (TE.sortedSetT hW (TE.var (val := .d (.lst (bg.map a0f))) rfl ⟨bg.map zP, by erw [List.map_map]; rfl, by erw [List.length_map]; exact hbl, fun qs hq hql => ?_⟩))))
 obtain ⟨b, rfl, hbm⟩ := b0k (l := bg) (qs := qs) fun p hp => (hq p).mp hp
 have hmem : ∀ p, p ∈ b ↔ p ∈ bg := fun p => ⟨hbm p, fun hp => by
  refine xEA (List.mem_map.mp ((hq (zP p)).mpr (List.mem_map.mpr ⟨p, hp, rfl⟩))) fun q hq1 e => ?_
  erw [← zP_inj e]; exact hq1⟩
 rw [List.length_map, List.length_map] at hql
 have hb' : ∀ p ∈ b, p.1 < N /\ p.2 < N := fun p hp => hb p (hbm p hp)
 have hcong := b2b (s := s) (t := t) (G := G) hN hmem hb'
 erw [← hcong]
 have ebp : (b.map zP).map a4u = b.map a0f := by erw [List.map_map]; rfl
 erw [ebp]
 have tcmp : TEq W (k + 2) (.comp (.tup [(.var 9), (.bool true)]) 1 true (.var 3) none) (([some (.d (a0m s w t)), some (.d (.lst (bg.map a0f))), some (.d (.lst (gs.map a0f))), none, none, none, none, none, none] : List (Option V)).set 3 (some (.d (.lst (b.map a0f))))) [] (.lst ((b.map a0f).map fun x => .tup [x, .bool true])) :=
  TEq.compS (fun x => .tup [x, .bool true]) (tape := []) (cs := []) (b := true) (l := b.map a0f) rfl trivial rfl rfl (by erw [List.length_map]; exact om135 hql hbl) fun x hx => TEq.ev (tape := []) (cs := []) rfl trivial
 refine TS.cons (TS1.asg (TE.dictT hW (tcmp.to ⟨b.map zP, by erw [List.map_map, List.map_map]; rfl, by erw [List.length_map]; exact om209 hql hbl, ?_⟩)))
 erw [dlP_dd]
 refine TS.asgV (tape := []) (cs := []) rfl trivial (TS.whileV (fun m ρ σ => ∃ (n : Nat) (x4 x7 x8 : Option V) (Z : List O), m = 66 - n /\ n <= 65 /\ (∀ j, j < n -> (lev s N t b j).2.any G = false) /\ ρ = rS s w t bg gs (lev s N t b n).2 x4 n x7 x8 /\ σ = .dT (metD ((lev s N t b n).1.map mkP)) :: Z)
  66 ⟨0, none, none, none, [], rfl, Nat.zero_le _, fun j hj => absurd hj (Nat.not_lt_zero _), rfl, rfl⟩ ?_)
 rintro m _ _ ⟨n, x4, x7, x8, Z, rfl, hn65, hno, rfl, rfl⟩
 have Ok := a3t (s := s) (N := N) (t := t) b n
 have hfew := c3m (s := s) (t := t) hN hb' (n := n)
 have hlt := c3l (s := s) (t := t) hN hb' (n := n)
 have hll : (lev s N t b n).2.length <= 64 := by
  cases n with
  | zero => show b.length <= 64; exact om210 hql hbl
  | succ n =>
   have : (lev s N t b (n + 1)).1.length = (lev s N t b n).1.length + (lev s N t b (n + 1)).2.length := List.length_append
   exact om211 this hfew hNN
 refine ⟨_, TCv.ev (tape := []) (cs := [_]) rfl ⟨⟨a4x _, rfl, Nat.le_trans (Nat.succ_le_succ (a9b _)) (by decide)⟩, trivial⟩, fun hd => ?_, fun hd => ?_⟩
 ·rw [b8h, Bool.not_eq_true', List.isEmpty_eq_false_iff] at hd
  have hn1 := b5s hd
  have hLl : ∀ p ∈ (lev s N t b n).2, p.1 < N /\ p.2 < N := fun p hp => hlt p (Ok.lvl p hp).2
  have hMnd := Ok.nd
  have hat : ∀ p ∈ (lev s N t b n).2, G p = true -> a0x s N t b G = n + 1 := fun p hp hg => b0i hN hb' (List.any_eq_true.mpr ⟨p, hp, hg⟩) hno
  have hs1 : (lev s N t b (n + 1)).1 = (lev s N t b n).1 ++ frsh (lev s N t b n).1 ((lev s N t b n).2.flatMap (a2c s N t)) := rfl
  have hs2 : (lev s N t b (n + 1)).2 = frsh (lev s N t b n).1 ((lev s N t b n).2.flatMap (a2c s N t)) := rfl
  generalize hM : (lev s N t b n).1 = M at *
  generalize hL : (lev s N t b n).2 = L at *
  have hsl : ∀ l : List (Nat × Nat), ∀ q ∈ l.flatMap (a2c s N t), q.1 < N /\ q.2 < N := fun l q hq => by
   refine xEA (List.mem_flatMap.mp hq) fun p ζ hq => ?_
   obtain ⟨x, hx, rfl⟩ := List.mem_map.mp hq
   refine xAAA (stp_mem.mp hx) fun ζ ζ ζ e => ?_
   erw [e]; exact ⟨Nat.mod_lt _ hN, Nat.mod_lt _ hN⟩
  refine TS.asgL (tape := []) (cs := []) (l := []) rfl trivial rfl (by decide) (TS.forS (tape := []) (cs := []) (c := true) (l := (L.map a0f).map V.d) rfl trivial rfl rfl (by erw [List.length_map, List.length_map]; exact om212 hll)
   (fun j ρ σ => ∃ (x4 x8 : Option V), (∀ p ∈ L.take j, G p = false) /\ ρ = rS s w t bg gs L x4 n (some (.r (Z.length + 1))) x8 /\ σ = .dT (metD ((M ++ frsh M ((L.take j).flatMap (a2c s N t))).map mkP)) :: (Z ++ [.lst ((frsh M ((L.take j).flatMap (a2c s N t))).map a0f)]))
   ⟨x4, x8, by simp, rfl, by erw [List.take_zero]; show _ = O.dT (metD ((M ++ []).map mkP)) :: _; erw [List.append_nil]; rfl⟩ ?_ ?_)
  ·rintro j x _ _ hx ⟨_, x8, hnog, rfl, rfl⟩
   obtain ⟨p, hp, rfl⟩ := b1k hx
   have hpl := hLl p (List.mem_of_getElem? hp)
   have htk : L.take (j + 1) = L.take j ++ [p] := by erw [List.take_add_one, hp]; rfl
   refine TS.iteC (TCv.cmp (TEv.ev (tape := []) (cs := []) rfl trivial) (TEv.ev (tape := []) (cs := []) rfl trivial) (.inL (x := a0f p) (l := gs.map a0f) rfl rfl rfl (a4x gs) (Nat.le_trans (a9b gs) (by decide)))) (fun h => ?_) fun h => TS.nil ?_
   ·rw [b8g, hGp] at h
    refine TS.retV (tape := []) (cs := []) rfl trivial ?_
    erw [hat p (List.mem_of_getElem? hp) h]
    rfl
   rw [b8g, hGp] at h
   refine TS.forS (tape := [.lst ((a0t s N t p).map a6n)]) (cs := [_]) (c := true) (l := ((a0t s N t p).map a6n).map V.d) rfl ⟨hps p hpl.1 hpl.2, trivial⟩ rfl rfl (by erw [List.length_map, List.length_map]; exact Nat.le_trans (b2g R) (by decide))
    (fun i ρ σ => ∃ (x8 : Option V), ρ = rS s w t bg gs L (some (.d (a0f p))) n (some (.r (Z.length + 1))) x8 /\ σ = .dT (metD ((M ++ frsh M ((L.take j).flatMap (a2c s N t) ++ (a2c s N t p).take i)).map mkP)) :: (Z ++ [.lst ((frsh M ((L.take j).flatMap (a2c s N t) ++ (a2c s N t p).take i)).map a0f)]))
    ⟨x8, rfl, by erw [List.take_zero, List.append_nil]⟩ ?_ ?_
   ·rintro i x _ _ hx ⟨_, rfl, rfl⟩
    obtain ⟨z, hz, rfl⟩ := b1k hx
    have hsz : (a2c s N t p)[i]? = some z.2.2 := by unfold a2c; erw [List.getElem?_map, hz]; rfl
    have htk2 : (a2c s N t p).take (i + 1) = (a2c s N t p).take i ++ [z.2.2] := by erw [List.take_add_one, hsz]; rfl
    generalize hl : (L.take j).flatMap (a2c s N t) ++ (a2c s N t p).take i = l at *
    have hll2 : ∀ q ∈ l, q.1 < N /\ q.2 < N := fun q hq => by
     rw [← hl] at hq
     rcases List.mem_append.mp hq with hq | hq
     ·exact hsl _ q hq
     ·exact hsl [p] q (by erw [List.flatMap_cons, List.flatMap_nil, List.append_nil]; exact List.mem_of_mem_take hq)
    have hfl := c6w hMnd hlt hll2
    have hfl2 : (frsh M l).length <= 64 := by rw [List.length_append] at hfl; exact om213 hfl hNN
    have ts : ∀ σ : List O, TEq W (k + 2) (.slice (.var 8) none (some (.int 2))) ((rS s w t bg gs L (some (.d (a0f p))) n (some (.r (Z.length + 1))) x8).set 8 (some (.d (a6n z)))) σ (a0f z.2.2) := fun σ =>
     TEq.slTo (b := 2) (l := [.int (z.2.2.1 : Int), .int (z.2.2.2 : Int), .int (z.1 : Int), .int (z.2.1 : Int)]) (TEq.ev (tape := []) (cs := []) rfl trivial) (TEq.ev (tape := []) (cs := []) rfl trivial) (show 2 <= 4 by decide) (show 4 <= 16777216 by decide)
    refine TS.iteC (TCv.cmp (ts _) (TEv.ev (tape := []) (cs := []) rfl trivial) (.notInDT (ks := keyZ [z.2.2.1, z.2.2.2]) rfl rfl)) (fun h => ?_) fun h => ?_
    ·rw [a2q, Bool.not_eq_true', decide_eq_false_iff_not, mkP_mem] at h
     have hmp : put (metD ((M ++ frsh M l).map mkP)) (keyZ [z.2.2.1, z.2.2.2]) (.bool true) = metD ((M ++ frsh M (l ++ [z.2.2])).map mkP) := by
      erw [b1g (q := []) (fun hc => h (mkP_mem.mp hc)), b8i h, ← List.append_assoc, a6a (f := mkP)]; rfl
     refine TS.putV (tape := []) (tape2 := []) (tape3 := [a0f z.2.2]) (cs := []) (cs2 := []) (cs3 := [_]) rfl trivial rfl trivial rfl ⟨ts _, trivial⟩ (.dT (i := keyZ [z.2.2.1, z.2.2.2]) rfl rfl (by unfold metD; erw [List.length_map, List.length_map]; exact om214 hfl hNN)) ?_
     erw [hmp]
     refine TS.appV (j := Z.length + 1) (x := a0f z.2.2) (l := (frsh M l).map a0f) (tape := [a0f z.2.2]) (cs := [_]) rfl (b7h _ _ _) (by erw [List.length_map]; exact om212 hfl2) rfl ⟨ts _, trivial⟩ (TS.nil (TS.nil ⟨_, rfl, ?_⟩))
     erw [htk2, ← List.append_assoc, hl]
     refine (b3n _ _ _ _).trans ?_
     erw [b8i h, a6a (f := a0f)]
    ·rw [a2q, Bool.not_eq_false', decide_eq_true_eq, mkP_mem] at h
     refine TS.nil (TS.nil ⟨_, rfl, ?_⟩)
     erw [htk2, ← List.append_assoc, hl, c6v h]
   ·rintro _ _ ⟨x8, rfl, rfl⟩
    have hlen : (((a0t s N t p).map a6n).map V.d).length = (a2c s N t p).length := by unfold a2c; erw [List.length_map, List.length_map, List.length_map]
    erw [hlen, List.take_length]
    refine TS.nil ⟨_, _, ?_, rfl, ?_⟩
    ·intro q hq
     rw [htk] at hq
     rcases List.mem_append.mp hq with hq | hq
     ·exact hnog q hq
     ·rw [List.mem_singleton] at hq; erw [hq]; exact h
    ·erw [htk, List.flatMap_append, List.flatMap_cons, List.flatMap_nil, List.append_nil]
  ·rintro _ _ ⟨x4, x8, hnog, rfl, rfl⟩
   have hlen : ((L.map a0f).map V.d).length = L.length := by erw [List.length_map, List.length_map]
   rw [hlen, List.take_length] at hnog ⊢
   refine TS.asgV (tape := []) (cs := []) rfl trivial (TS.asgV (v := .d (.int ((n + 1 + 1 : Nat) : Int))) (tape := []) (cs := []) rfl trivial (TS.freeze (j := Z.length + 1) (b7h _ _ _) (TS.nil ⟨66 - (n + 1), by exact om215 hn65, n + 1, frz (Z.length + 1) (.lst ((frsh M (L.flatMap (a2c s N t))).map a0f)) x4, some (.d (.lst ((frsh M (L.flatMap (a2c s N t))).map a0f))), frz (Z.length + 1) (.lst ((frsh M (L.flatMap (a2c s N t))).map a0f)) x8, Z ++ [.dead], rfl, by exact om216 hn1 hfew hNN, ?_, ?_, ?_⟩)))
   ·intro j hj
    by_cases hjn : j < n
    ·exact hno j hjn
    ·have : j = n := by exact om161 hj hjn
     subst this
     erw [hL]
     refine Classical.byContradiction fun hc => ?_
     refine xEA (List.any_eq_true.mp ((Bool.eq_false_or_eq_true _).resolve_right hc)) fun q hq hg => ?_
     rw [hnog q hq] at hg; exact dFT hg
   ·have e : ∀ x, frz (Z.length + 1) x (some (.r (Z.length + 1))) = some (.d x) := fun x => if_pos rfl
    have e0 : ∀ x, frz (Z.length + 1) x (some (.r 0)) = some (.r 0) := fun x => rfl
    erw [hs2]
    show [_, _, _, frz _ _ (some (.r (Z.length + 1))), _, frz _ _ (some (.r 0)), _, frz _ _ (some (.r (Z.length + 1))), _] = _
    erw [e, e0]; rfl
   ·erw [hs1]; exact b3n _ _ _ _
 ·rw [b8h, Bool.not_eq_false', List.isEmpty_iff] at hd
  refine TS.retV (tape := []) (cs := []) rfl trivial ?_
  erw [b9h hd hno]
  rfl
end
end Mine
end
section
open PySem PyProof.Rows PySem.SeqAt
namespace Mine
section
variable {gl : Str -> Option Value} {X : Cx} {names : List Str} {ρ : List (Option V)} {σ : List O} {Λ : Addr -> Prop} {ad : List Addr} {s s' : Shared}
theorem St.liveR (S : St gl X names ρ σ Λ ad s) (kk : Kept X.env.locals s s') {a r : Addr} (hn : s.heap.get? a = none) (hr : s.heap.get? r = none) {o : O} (hd : o ≠ .dead)
  (ho : ∀ Λ' ad', Keep Λ Λ' s.heap s'.heap -> (∀ (i : Nat) (b : Addr), ad[i]? = some b -> ad'[i]? = some b) -> ORel gl s'.heap Λ' X.Φ ad' a o) (he : ∃ ob, s'.heap.get? a = some ob) (her : ∃ ob, s'.heap.get? r = some ob) :
  St gl X names ρ (σ ++ [o]) (fun b => Λ b ∨ (b = a ∨ b = r)) (ad ++ [a]) s' /\ Step (a1d X.env) σ ad Λ s.heap (σ ++ [o]) (ad ++ [a]) (fun b => Λ b ∨ (b = a ∨ b = r)) s'.heap := by
 have P := Step.of_kept S kk
 have S' := S.kept kk
 have hna : ∀ b ob, s.heap.get? b = some ob -> b ≠ a := fun b ob e h => by subst h; exact dGN hn e
 have hnr : ∀ b ob, s.heap.get? b = some ob -> b ≠ r := fun b ob e h => by subst h; exact dGN hr e
 have hnad : a ∉ ad := fun hm => by obtain ⟨ob, e⟩ := S.adl a hm; exact dGN hn e
 have hL : a ≠ X.env.locals := fun h => by
  obtain ⟨m, n⟩ := S.ns
  obtain ⟨ob, _, _, e, _⟩ := n
  exact hna _ _ e h.symm
 have K : Keep Λ (fun b => Λ b ∨ (b = a ∨ b = r)) s.heap s'.heap := ⟨(P.keep S).tups, (P.keep S).objs, fun b ob nl ζ e l => l.elim nl fun l => l.elim (hna b ob e) (hnr b ob e)⟩
 have pre : ∀ (i : Nat) (b : Addr), ad[i]? = some b -> (ad ++ [a])[i]? = some b := fun i b e => a7h e
 refine ⟨⟨S'.keep, S'.os, S'.gens, fun b l => ?_, fun b l => ?_, S.phi, ?_, by simp [S.len], fun b hb => ?_, fun i b o' e1 e2 e3 => ?_, .inl S.locL, ?_, S.cellN, S.rl, ?_⟩, ⟨P.only, P.dom, fun b l => ?_, pre, fun b l => ?_, fun b l => ?_, fun ζ ζ ζ l ζ => .inl l⟩⟩
 ·rcases l with l | rfl | rfl
  ·exact S.new b l
  ·cases q : X.hB.get? b with
   | none => rfl
   | some ob => exact absurd rfl (hna _ _ (S.keep _ _ q))
  ·cases q : X.hB.get? b with
   | none => rfl
   | some ob => exact absurd rfl (hnr _ _ (S.keep _ _ q))
 ·rcases l with l | rfl | rfl
  ·exact S'.lt b l
  ·exact he
  ·exact her
 ·rw [List.nodup_append]
  refine ⟨S.nd, by simp, fun x hx y hy => ?_⟩
  simp only [List.mem_singleton] at hy
  subst hy
  exact fun h => hnad (h ▸ hx)
 ·rcases List.mem_append.mp hb with hb | hb
  ·exact S'.adl b hb
  ·simp only [List.mem_singleton] at hb; subst hb; exact he
 ·rcases get_snoc e1 with e1' | ⟨rfl, rfl⟩
  ·have hlt : i < σ.length := by erw [← S.len]; exact (List.getElem?_eq_some_iff.mp e1').1
   rw [List.getElem?_append_left hlt] at e2
   obtain ⟨h1, h2⟩ := S.objs i b o' e1' e2 e3
   exact ⟨.inl h1, h2.keep K pre fun ob e => kk.obj b ob (fun h => S.locA (h ▸ a0g e1')) e⟩
  ·rw [S.len] at e2
   simp at e2
   subst e2
   exact ⟨.inr (.inl rfl), ho _ _ K pre⟩
 ·intro hm
  rcases List.mem_append.mp hm with hm | hm
  ·exact S.locA hm
  ·simp only [List.mem_singleton] at hm; exact hL hm.symm
 ·refine a0u S.vars fun m cm n c v => ?_
  refine ⟨m, cm, kk.ns m n, fun x c' e => ?_, fun x i val e1 e2 => ⟨fun hk => ?_, fun hk => ?_⟩⟩
  ·have hc := c x c' e
   have := a2j hc n
   obtain ⟨ob, ho', hdt⟩ := hc
   exact ⟨ob, kk.obj c' ob this ho', hdt⟩
  ·refine xEA ((v x i val e1 e2).1 hk) fun v' h1 h2 => ?_
   exact ⟨v', h1, h2.keep K pre⟩
  ·refine a0u ((v x i val e1 e2).2 hk) fun c' v' h1 h2 h3 => ?_
   exact ⟨c', v', h1, h2, h3.keep K pre⟩
 ·rcases l with l | rfl | rfl
  ·exact .inl l
  ·exact .inr hn
  ·exact .inr hr
 ·obtain ⟨i, o', e1, e2, e3⟩ := l
  rcases get_snoc e1 with e1' | ⟨rfl, rfl⟩
  ·have hlt : i < σ.length := by erw [← S.len]; exact (List.getElem?_eq_some_iff.mp e1').1
   rw [List.getElem?_append_left hlt] at e2
   exact .inl ⟨i, o', e1', e2, e3⟩
  ·exact .inr hn
 ·rcases List.mem_append.mp l with l | l
  ·exact .inl l
  ·simp only [List.mem_singleton] at l; subst l; exact .inr hn
theorem St.adoptL (S : St gl X names ρ σ Λ ad s) {D : Addr} {ys : List Value} {n : Nat} {l : List Mine.D} (hΛ : Λ D) (hA : D ∉ ad) (hL : D ≠ X.env.locals) (h : s.heap.get? D = some (LO ys n)) (r : DRels gl s.heap (Un Λ X.Φ) ys l) : St gl X names ρ (σ ++ [.lst l]) Λ (ad ++ [D]) s := by
 have pre : ∀ (i : Nat) (b : Addr), ad[i]? = some b -> (ad ++ [D])[i]? = some b := fun i b e => a7h e
 refine ⟨S.keep, S.os, S.gens, S.new, S.lt, S.phi, ?_, by erw [List.length_append, List.length_append, S.len]; rfl, fun b hb => ?_, fun i b o e1 e2 e3 => ?_, S.locL, fun hm => ?_, S.cellN, S.rl, ?_⟩
 ·rw [List.nodup_append]
  refine ⟨S.nd, by simp, fun x hx y hy => ?_⟩
  erw [List.mem_singleton.mp hy]
  exact fun h => hA (h ▸ hx)
 ·rcases List.mem_append.mp hb with hb | hb
  ·exact S.adl b hb
  ·erw [List.mem_singleton.mp hb]; exact ⟨_, h⟩
 ·rcases get_snoc e1 with e1' | ⟨hi, hb⟩
  ·have hlt : i < σ.length := by erw [← S.len]; exact (List.getElem?_eq_some_iff.mp e1').1
   rw [List.getElem?_append_left hlt] at e2
   obtain ⟨h1, h2⟩ := S.objs i b o e1' e2 e3
   exact ⟨h1, h2.keep .refl pre fun ζ e => e⟩
  ·rw [hi, S.len, List.getElem?_append_right (Nat.le_refl _), Nat.sub_self] at e2
   cases e2
   erw [hb]
   exact ⟨hΛ, ys, n, h, r⟩
 ·rcases List.mem_append.mp hm with hm | hm
  ·exact S.locA hm
  ·exact hL (List.mem_singleton.mp hm).symm
 ·refine a0u S.vars fun m cm n' c v => ?_
  refine ⟨m, cm, n', c, fun x i val e1 e2 => ⟨fun hk => ?_, fun hk => ?_⟩⟩
  ·refine xEA ((v x i val e1 e2).1 hk) fun v' h1 h2 => ?_
   exact ⟨v', h1, h2.keep .refl pre⟩
  ·refine a0u ((v x i val e1 e2).2 hk) fun c' v' h1 h2 h3 => ?_
   exact ⟨c', v', h1, h2, h3.keep .refl pre⟩
end
section
variable {W : World0} {k : Nat} {ρ : List (Option V)} {σ : List O}
theorem c3u {vs : List Value} {a b : List Int} (h1 : IntsAre vs a) (h2 : IntsAre vs b) : a = b := by
 induction h1 generalizing b with
 | nil => cases h2; rfl
 | cons n t r ih =>
  cases h2 with
  | cons _ _ r2 => erw [ih r2]
theorem b4n (l : List Nat) : a0a l = (l.map fun (x : Nat) => (x : Int)).map D.int := by unfold a0a; erw [List.map_map]; rfl
set_option tactic.hygienic true in
theorem TE.callR2 {f : String} {cf : CF} {es : List CE} {Q : V -> List O -> Prop} (hf : HasF W f cf) (hne : es ≠ []) (t : TEs W k es ρ σ fun vals σ' => ∃ args R, ArgsOkN σ' vals args /\ Fun W k f args R /\ ∀ r, R r -> ∃ a b : List Nat, r = .tup [.lst (a0a a), .lst (a0a b)] /\ a ≠ b /\ Q (.t [.r σ'.length, .r (σ'.length + 1)]) (σ' ++ [.lst (a0a a)] ++ [.lst (a0a b)])) : TE W k (.call f es) ρ σ Q :=
 fun names sc E he X hk hr hw Λ ad s S => by
  replace he := b6n he; obtain ⟨_, _, _, _, rfl, he⟩ := he
  ·simp only [Bool.and_eq_true] at he
   refine b6r hf hne he.1.1 he.1.2 hk hr hw S t fun a vs s₁ vals σ1 Λ1 ad1 hg S1 P1 r₁ q => ?_
   refine a0u q fun args R ha F q => ?_
   refine wpAny_mono (F X.A s₁ vs (used s₁) hr (W.keeps hw S1.keep) (fun ζ h => h) (c0v S1 r₁ ha) a hg).2 (fun v s₂ h₂ => ?_) fun ζ ζ f => f
   refine b9j h₂ fun r hR kp ho hgn dr => ?_
   obtain ⟨l1, l2, rfl, hll, q⟩ := q r hR
   cases dr with
   | tup ht d =>
    cases d with
    | cons d1 d2 =>
     cases d2 with
     | cons d2 d3 =>
      cases d3
      cases d1 with
      | lst h1 h2 h3 =>
       rename_i b1 vs1 n1
       cases d2 with
       | lst g1 g2 g3 =>
        rename_i b2 vs2 n2
        have hb1 : s₁.heap.get? b1 = Option.none := by
         cases e : s₁.heap.get? b1 with
         | none => rfl
         | some o => exact absurd ⟨o, e⟩ h2
        have hb2 : s₁.heap.get? b2 = Option.none := by
         cases e : s₁.heap.get? b2 with
         | none => rfl
         | some o => exact absurd ⟨o, e⟩ g2
        have hne12 : b2 ≠ b1 := fun e => by
         subst e
         rw [h1] at g1
         cases g1
         have i1 := a1e (ns := l1.map fun (x : Nat) => (x : Int)) (by rw [← b4n]; exact h3)
         have i2 := a1e (ns := l2.map fun (x : Nat) => (x : Int)) (by rw [← b4n]; exact g3)
         have := c3u i1 i2
         exact hll (b7c this)
        obtain ⟨S2, P2⟩ := S1.liveR (.of_keeps kp ho hgn) hb1 hb2 (o := .lst (a0a l1)) (by intro h; cases h) (fun Λ' ad' K pre => ⟨vs1, n1, h1, h3.nolists (a2m l1)⟩) ⟨_, h1⟩ ⟨_, g1⟩
        have hA : b2 ∉ ad1 ++ [b1] := fun hm => by
         rcases List.mem_append.mp hm with hm | hm
         ·obtain ⟨ob, e⟩ := S1.adl b2 hm; exact dGN hb2 e
         ·exact hne12 (List.mem_singleton.mp hm)
        have hLoc : b2 ≠ X.env.locals := fun h => by
         obtain ⟨m, n⟩ := S1.ns
         obtain ⟨ob, _, _, e, _⟩ := n
         rw [← h, hb2] at e; exact dNS e
        have S3 := S2.adoptL (D := b2) (.inr (.inr rfl)) hA hLoc g1 (l := a0a l2) (g3.nolists (a2m l2))
        have P3 := P2.adopt (D := b2) (o := .lst (a0a l2)) S2.len hb2
        refine ⟨_, _, _, _, S3, P1.trans P3, ?_, q⟩
        have e1 : ((ad1 ++ [b1]) ++ [b2])[σ1.length]? = some b1 := by erw [← S1.len]; simp
        have e2 : ((ad1 ++ [b1]) ++ [b2])[σ1.length + 1]? = some b2 := by erw [← S1.len]; simp
        exact .t ht (.cons (.r e1) (.cons (.r e2) .nil))
end
end Mine
end
section
open PySem PyProof.Rows PySem.SeqAt
namespace Mine
section
variable {W : World0} {k : Nat} {ρ : List (Option V)} {σ : List O}
theorem TCv.andF {a : CE} {l : List CE} (ta : TCv W k a ρ σ false) : TCv W k (.and (a :: l)) ρ σ false := TC.and (ta.to ⟨rfl, rfl⟩)
theorem TCv.andT {a : CE} {l : List CE} {y : Bool} (ta : TCv W k a ρ σ true) (tb : TCv W k (.and l) ρ σ y) : TCv W k (.and (a :: l)) ρ σ y := TC.and (ta.to tb)
theorem TCv.orY {a : CE} {l : List CE} (ta : TCv W k a ρ σ true) : TCv W k (.or (a :: l)) ρ σ true := TC.or (ta.to ⟨rfl, rfl⟩)
theorem TCv.orN {a : CE} {l : List CE} {y : Bool} (ta : TCv W k a ρ σ false) (tb : TCv W k (.or l) ρ σ y) : TCv W k (.or (a :: l)) ρ σ y := TC.or (ta.to tb)
theorem TCv.or1 {a : CE} {y : Bool} (ta : TCv W k a ρ σ y) : TCv W k (.or [a]) ρ σ y := by
 cases y with
 | true => exact TCv.orY ta
 | false => exact TCv.orN ta c7o
theorem c6x : TCv W k (.and []) ρ σ true := TC.andNil ⟨rfl, rfl⟩
theorem TCv.and1 {a : CE} {y : Bool} (ta : TCv W k a ρ σ y) : TCv W k (.and [a]) ρ σ y := by
 cases y with
 | true => exact TCv.andT ta c6x
 | false => exact TCv.andF ta
end
noncomputable def c3v (o : Option (Nat × Ent)) : D := match o with
 | some b => .tup [.int (b.1 : Int), entD b.2]
 | none => .none
noncomputable def twinD (s w : Nat) (o : Option (Nat × Ent)) : D := match o with
 | some b => .tup [.lst (a0a (digs s (w - 1) b.1 ++ b.2.2.1)), .lst (a0a (digs s (w - 1) b.1 ++ b.2.2.2))]
 | none => .none
structure HasT (W : World0) : Prop where
 S : HasS W
 cells_of : HasF W "cells_of" F_cells_of
 pair_steps : HasF W "pair_steps" F_pair_steps
 walked : HasF W "walked" F_walked
 is_one : HasF W "is_one" F_is_one
 parted_from : HasF W "parted_from" F_parted_from
 twins : HasF W "twins" F_twins
section
variable {W : World0} {k : Nat} {s w : Nat} {t : List Nat}
theorem OkR.n16 (R : OkR s w t) : s ^ (w - 1) * s <= 16 := by
 have h := R.w1
 have : s ^ (w - 1) * s = s ^ w := by erw [← Nat.pow_succ]; congr 1; exact om217 h
 erw [this]; exact R.rows
theorem b9i (H : HasT W) (R : OkR s w t) : Spec W (k + 7) "twins" [.d (a0m s w t)] (twinD s w (tw s (s ^ (w - 1)) t (s ^ (w - 1)))) := by
 have hN := R.pos
 have hN8 := R.n8
 have hsp : 0 < s := Nat.lt_of_lt_of_le (by decide) R.s2
 have walk : ∀ e, e < s ^ (w - 1) -> Spec W (k + 6) "walked" [.d (a0m s w t), .d (.lst ((begT s (s ^ (w - 1)) t e).map entD)), .d (.fn "is_one")] (a9i (wres s (s ^ (w - 1)) t (begT s (s ^ (w - 1)) t e) diag)) := fun e he =>
  b4l (k := k + 1) H.S H.pair_steps H.walked R a1k (c3p hN) (fun i => a5y hN R.n16 R.s4) (fun p => b5v H.is_one p)
 have part : ∀ e, e < s ^ (w - 1) -> Spec W (k + 6) "parted_from" [.d (a0m s w t), .d (.int (e : Int))] (.lst ((begT s (s ^ (w - 1)) t e).map entD)) := fun e he => a7e (k := k + 1) H.S H.pair_steps H.parted_from R he
 have many : Spec W (k + 6) "many_ends" [.d (a0m s w t)] (.int ((s ^ (w - 1) : Nat) : Int)) := a2w H.S R
 have shrt : ∀ {n : Nat} {b : Nat × Ent}, tw s (s ^ (w - 1)) t n = some b -> b.2.2.1.length <= 302 /\ b.2.2.2.length <= 302 := fun {n b} h => by
  refine xAA (a4v h) fun ζ h2 ζ => ?_
  have := a7o (s := s) (N := s ^ (w - 1)) (t := t) a1k 300 b.2 (b2d h2)
  exact om218 this
 have shrt2 : ∀ {e : Nat} {u : Ent}, wres s (s ^ (w - 1)) t (begT s (s ^ (w - 1)) t e) diag = some u -> u.2.1.length <= 302 := fun {e u} h => by
  have := a7o (s := s) (N := s ^ (w - 1)) (t := t) a1k 300 u (b2d h)
  exact om219 this
 have dg : ∀ n : Nat, Spec W (k + 6) "cells_of" [.d (.int s), .d (.int ((w - 1 : Nat) : Int)), .d (.int (n : Int))] (.lst (a0a (digs s (w - 1) n))) := fun n => b1m H.S.R.ok H.cells_of hsp R.s1000 (Nat.le_trans (Nat.sub_le _ _) R.w1000)
 generalize s ^ (w - 1) = N at *
 refine Spec.intro H.twins rfl (TS.exV (tape := [.none]) (cs := [_]) rfl ⟨a1y H.S.R R, trivial⟩ (TS.asgV (tape := []) (cs := []) rfl trivial (TS.forR H.S.R.ok (m := N) (tape := [.int (N : Int)]) (cs := [_]) rfl ⟨many, trivial⟩ (om220 hN8)
  (fun n ρ σ => ∃ x2 x3, ρ = [some (.d (a0m s w t)), some (.d (c3v (tw s N t n))), x2, x3, none] /\ σ = []) ⟨none, none, rfl, rfl⟩ (fun n ρ1 σ1 hn η => exT2 (fun x2 x3 => ?_) η) (fun ρ1 σ1 η => exF2 (fun x2 x3 => ?_) η))))
 ·refine TS.asgV (v := .d (a9i (wres s N t (begT s N t n) diag))) (tape := [.lst ((begT s N t n).map entD), .fn "is_one", a9i (wres s N t (begT s N t n) diag)]) (cs := [_, _, _]) rfl ⟨walk n hn, TE.gf H.is_one ⟨rfl, rfl⟩, part n hn, trivial⟩ ?_
  have step : ∀ {b : Option (Nat × Ent)}, b = twS s N t (tw s N t n) n -> c3v (tw s N t (n + 1)) = c3v b := fun {b} h => by erw [b5t, h]
  cases hw : wres s N t (begT s N t n) diag with
  | none =>
   have e0 := step (b := tw s N t n) (by unfold twS; erw [hw])
   refine TS.iteC (b := false) (TCv.andF (TCv.ev (tape := []) (cs := []) rfl trivial)) (fun h => by exact dFT h) fun ζ => TS.nil (TS.nil ⟨some (.d (.int (n : Int))), some (.d (a9i none)), by erw [e0]; rfl, rfl⟩)
  | some u =>
   have hu := shrt2 hw
   cases hb : tw s N t n with
   | none =>
    have e0 := step (b := some (n, u)) (by unfold twS; erw [hw, hb])
    refine TS.iteC (b := true) (TCv.andT (TCv.ev (tape := []) (cs := []) rfl trivial) (TCv.and1 (TCv.orY (TCv.ev (tape := []) (cs := []) rfl trivial)))) (fun ζ => ?_) fun h => by exact dTF h
    refine TS.asgV (tape := []) (cs := []) rfl trivial (TS.nil (TS.nil ⟨some (.d (.int (n : Int))), some (.d (a9i (some u))), by erw [e0]; rfl, rfl⟩))
   | some v =>
    have hv := shrt hb
    refine TS.iteC (b := decide (u.2.1.length < v.2.2.1.length)) (TCv.andT (TCv.ev (tape := []) (cs := []) rfl trivial) (TCv.and1 (TCv.orN (TCv.ev (tape := []) (cs := []) rfl trivial) (TCv.or1 ?_)))) (fun h => ?_) fun h => ?_
    ·have l1 := TEq.len (W := W) (k := k + 6) (σ := []) (ρ := [some (.d (a0m s w t)), some (.d (c3v (some v))), some (.d (.int (n : Int))), some (.d (a9i (some u))), none]) (e := .sub (.var 3) (.int 1)) H.S.R.ok (tape := []) (cs := []) (x := .lst (a0a u.2.1)) rfl trivial rfl rfl (a1a (om221 hu))
     have l2 := TEq.len (W := W) (k := k + 6) (σ := []) (ρ := [some (.d (a0m s w t)), some (.d (c3v (some v))), some (.d (.int (n : Int))), some (.d (a9i (some u))), none]) (e := .sub (.sub (.var 1) (.int 1)) (.int 1)) H.S.R.ok (tape := []) (cs := []) (x := .lst (a0a v.2.2.1)) rfl trivial rfl rfl (a1a (om222 hv))
     have := TCv.cmp (op := .Lt) l1 l2 (.lt rfl rfl)
     rw [a0e, a0e] at this
     have e : decide ((u.2.1.length : Int) < (v.2.2.1.length : Int)) = decide (u.2.1.length < v.2.2.1.length) := by rw [decide_eq_decide]; exact Int.ofNat_lt
     rw [e] at this
     exact this
    ·have e0 := step (b := some (n, u)) (by unfold twS; erw [hw, hb]; exact (if_pos (of_decide_eq_true h)).symm)
     refine TS.asgV (tape := []) (cs := []) rfl trivial (TS.nil (TS.nil ⟨some (.d (.int (n : Int))), some (.d (a9i (some u))), by erw [e0]; rfl, rfl⟩))
    ·have e0 := step (b := some v) (by unfold twS; erw [hw, hb]; exact (if_neg (of_decide_eq_false h)).symm)
     exact TS.nil (TS.nil ⟨some (.d (.int (n : Int))), some (.d (a9i (some u))), by erw [e0]; rfl, rfl⟩)
 ·cases hb : tw s N t N with
  | none => exact TS.iteC (b := true) (TCv.ev (tape := []) (cs := []) rfl trivial) (fun ζ => TS.retV (tape := []) (cs := []) rfl trivial rfl) fun h => by exact dTF h
  | some v =>
   have hv := shrt hb
   refine TS.iteC (b := false) (TCv.ev (tape := []) (cs := []) rfl trivial) (fun h => by exact dFT h) fun ζ => TS.nil ?_
   have ew : (w : Int) - 1 = ((w - 1 : Nat) : Int) := by have := R.w1; exact om223 this
   refine TS.asgV (tape := [.lst (a0a (digs s (w - 1) v.1))]) (cs := [_]) rfl ⟨ew ▸ dg v.1, trivial⟩ (TS.retV (tape := []) (cs := [_, _]) rfl ⟨?_, ?_, trivial⟩ ?_)
   ·erw [a0e, a0e, a5t]; have := R.w4; exact om224 this hv
   ·erw [a0e, a0e, a5t]; have := R.w4; exact om225 this hv
   ·show some (D.tup [.lst (a0a (digs s (w - 1) v.1) ++ a0a v.2.2.1), .lst (a0a (digs s (w - 1) v.1) ++ a0a v.2.2.2)]) = some (D.tup [.lst (a0a (digs s (w - 1) v.1 ++ v.2.2.1)), .lst (a0a (digs s (w - 1) v.1 ++ v.2.2.2))])
    unfold a0a
    erw [List.map_append, List.map_append]
end
end Mine
end
section
open PySem PyProof.Rows PySem.SeqAt
namespace Mine
section
variable {W : World0} {k : Nat} {ρ : List (Option V)} {σ : List O}
theorem TC.cmp2 {o₁ o₂ : CmpOp} {a b c : CE} {Q : Bool -> List O -> Prop} (t : TE W k a ρ σ fun va σ1 => TE W k b ρ σ1 fun vb σ2 => ∃ r, CmpV o₁ σ2 va vb r /\ if r then TE W k c ρ σ2 (fun vc σ3 => ∃ r', CmpV o₂ σ3 vb vc r' /\ Q r' σ3) else Q false σ2) : TC W k (.cmp2 o₁ o₂ a b c) ρ σ Q :=
 fun names sc E he X hk hr hw Λ ad s S => by
  replace he := b6m he; obtain ⟨l, o, o', r, r', pos, rfl, he⟩ := he
  ·skip
   simp only [Bool.and_eq_true, beq_iff_eq, Bool.not_eq_true'] at he
   obtain ⟨⟨⟨⟨⟨⟨rfl, rfl⟩, ha⟩, hb⟩, hc⟩, hm⟩, hm'⟩ := he
   refine isTrue_chain (rs := []) (ops := []) (wpAny_mono (t names sc l ha X hk hr hw Λ ad s S) (fun x s₁ h₁ => ?_) fun ζ ζ f => f) (by simpa [lastMarks] using hm')
   obtain ⟨va, σ1, Λ1, ad1, S1, P1, r₁, t₁⟩ := h₁
   refine test_link (wpAny_mono (t₁ names sc r hb X hk hr hw Λ1 ad1 s₁ S1) (fun y s₂ h₂ => ?_) fun ζ ζ f => f)
   obtain ⟨vb, σ2, Λ2, ad2, S2, P2, r₂, rb, cv, t₂⟩ := h₂
   refine a2k S2 hr cv (r₁.step S1 P2) r₂ X.env.locals S2.ns _ _ fun v s₃ kk dr => ?_
   obtain rfl := dr.boolI
   refine wpAny_truthy_bool ?_
   have S3 := S2.kept kk
   have P3 := Step.of_kept S2 kk
   have P := (P1.trans P2).trans P3
   cases rb with
   | false => exact ⟨_, _, _, S3, P, t₂⟩
   | true =>
    refine test_last (wpAny_mono (t₂ names sc r' hc X hk hr hw Λ2 ad2 s₃ S3) (fun z s₄ h₄ => ?_) fun ζ ζ f => f)
    obtain ⟨vc, σ4, Λ4, ad4, S4, P4, r4, rb', cv', q⟩ := h₄
    refine a2k S4 hr cv' ((r₂.step S2 P3).step S3 P4) r4 X.env.locals S4.ns _ _ fun v s5 kk' dr' => ?_
    obtain rfl := dr'.boolI
    refine wpAny_truthy_bool ?_
    exact ⟨_, _, _, S4.kept kk', (P.trans P4).trans (Step.of_kept S4 kk'), q⟩
variable {s w : Nat} {t : List Nat}
theorem a4o (hW : WOk W) (hf : HasF W "_law_cells" b0n) (R : OkR s w t) {f : List Nat} (hs : ∀ x ∈ f, x < s) (hl : f.length <= 1000) : Spec W (k + 1) "_law_cells" [.d (a0m s w t), .a (.lst (a0a f))] (.bool true) := by
 refine Spec.intro hf rfl (TS.iteC (b := false) (TCv.ev (tape := [.bool true]) (cs := [_]) rfl ⟨TEq.isi hW (tape := []) (cs := []) rfl trivial rfl (.lst _), trivial⟩) (fun h => by exact dFT h) fun ζ => TS.nil
  (TS.forS (tape := []) (cs := []) (c := true) (l := (a0a f).map b0t) rfl trivial rfl rfl (by erw [List.length_map]; exact a1a hl)
   (fun n ρ σ => ∃ x, ρ = [some (.d (a0m s w t)), some (.a (.lst (a0a f))), x] /\ σ = []) ⟨none, rfl, rfl⟩ (fun n x ρ1 σ1 hx η => exT1 (fun y => ?_) η) (fun ρ1 σ1 η => exF1 (fun x => ?_) η)))
 ·rw [a9x] at hx
  obtain ⟨a, ha, rfl⟩ := b7e hx
  have hal := hs a (List.mem_of_getElem? ha)
  refine TS.iteC (b := false) (TCv.orN (TCv.ev (b := false) (tape := [.bool true]) (cs := [_]) rfl ⟨TEq.isi hW (tape := []) (cs := []) (x := .int (a : Int)) rfl trivial rfl (.intInt _), trivial⟩) (TCv.orN (TCv.ev (b := false) (tape := [.bool false]) (cs := [_]) rfl ⟨TEq.isi hW (tape := []) (cs := []) (x := .int (a : Int)) rfl trivial rfl (.intBool _), trivial⟩)
   (TCv.or1 (TC.not (TC.cmp2 (TE.int (TE.var rfl ⟨true, ?_, ?_⟩))))))) (fun h => by exact dFT h) fun ζ => TS.nil (TS.nil ⟨_, rfl, rfl⟩)
  ·have : decide ((0 : Int) <= (a : Int)) = true := decide_eq_true (Int.natCast_nonneg a)
   exact this ▸ .le rfl rfl
  ·refine TE.ev (tape := []) (cs := []) (v := .d (.int (s : Int))) rfl trivial ⟨true, ?_, rfl, rfl⟩
   have : decide ((a : Int) < (s : Int)) = true := decide_eq_true (Int.ofNat_lt.mpr hal)
   exact this ▸ .lt rfl rfl
 ·exact TS.retV (tape := []) (cs := []) rfl trivial rfl
end
end Mine
end
section
open PySem PyProof.Rows PySem.SeqAt
namespace Mine
theorem b0l : ∀ f g : List Nat, eqDs (a0a f) (a0a g) = decide (f = g)
 | [], [] => rfl
 | [], _ :: _ => rfl
 | _ :: _, [] => rfl
 | a :: f, b :: g => by
  show (((a : Int) == (b : Int)) && eqDs (a0a f) (a0a g)) = _
  erw [a6o, b0l f g, Bool.eq_iff_iff, Bool.and_eq_true, beq_iff_eq, decide_eq_true_eq, decide_eq_true_eq, List.cons.injEq]
section
variable {W : World0} {k : Nat} {s w : Nat} {t : List Nat}
theorem a9j (H : HasB9 W) (hc : HasF W "_law_cells" b0n) (hf : HasF W "_law_are_twins" a4q) (R : OkR s w t) {f g : List Nat} {n : Nat} (T : Twins s w t f g n) (hn : n <= 900) : Spec W (k + 7) "_law_are_twins" [.d (a0m s w t), .a (.tup [.lst (a0a f), .lst (a0a g)])] (.bool true) := by
 have w1 := R.w1
 have w4 := R.w4
 have lf := T.lf
 have lg := T.lg
 have hfl : f.length <= 1000 := by exact om226 lf w4 hn
 have hgl : g.length <= 1000 := by exact om227 lg lf hfl
 have ew : (w : Int) - 1 = ((w - 1 : Nat) : Int) := by exact om223 w1
 have c1 : Spec W (k + 6) "_law_cells" [.d (a0m s w t), .a (.lst (a0a f))] (.bool true) := a4o (k := k + 5) H.R.ok hc R T.sf hfl
 have c2 : Spec W (k + 6) "_law_cells" [.d (a0m s w t), .a (.lst (a0a g))] (.bool true) := a4o (k := k + 5) H.R.ok hc R T.sg hgl
 have p1 : Spec W (k + 6) "piece_on" [.d (a0m s w t), .a (.lst (a0a f))] (.lst (a0a (onL s w t f))) := a4l H R hfl T.sf (om228 lf)
 have p2 : Spec W (k + 6) "piece_on" [.d (a0m s w t), .a (.lst (a0a g))] (.lst (a0a (onL s w t g))) := a4l H R hgl T.sg (om228 lg)
 rw [← T.on] at p2
 refine Spec.intro hf rfl (TS.iteC (b := false) (TCv.orN (TCv.ev (b := false) (tape := [.bool true]) (cs := [_]) rfl ⟨TEq.isi H.R.ok (tape := []) (cs := []) rfl trivial rfl (.tup _), trivial⟩) (TCv.or1 (TCv.ev (b := false) (tape := [.int 2]) (cs := [_]) rfl ⟨TEq.len H.R.ok (tape := []) (cs := []) (x := .tup [.lst (a0a f), .lst (a0a g)]) (n := 2) rfl trivial rfl rfl (by decide), trivial⟩))) (fun h => by exact dFT h) fun ζ => TS.nil ?_)
 refine TS.iteC (b := false) (TCv.orN (TCv.ev (b := false) (tape := [.bool true]) (cs := [_]) rfl ⟨c1, trivial⟩) (TCv.or1 (TCv.ev (b := false) (tape := [.bool true]) (cs := [_]) rfl ⟨c2, trivial⟩))) (fun h => by exact dFT h) fun ζ => TS.nil ?_
 refine TS.asgTV (l := [.a (.lst (a0a f)), .a (.lst (a0a g))]) (tape := []) (cs := []) rfl trivial rfl rfl ?_
 refine TS.asgV (v := .d (.int ((w - 1 : Nat) : Int))) (tape := []) (cs := []) (by erw [← ew]; rfl) trivial ?_
 show TS W (k + 6) _ [some (.d (a0m s w t)), some (.a (.tup [.lst (a0a f), .lst (a0a g)])), some (.a (.lst (a0a f))), some (.a (.lst (a0a g))), some (.d (.int ((w - 1 : Nat) : Int)))] [] _
 generalize hρ : ([some (.d (a0m s w t)), some (.a (.tup [.lst (a0a f), .lst (a0a g)])), some (.a (.lst (a0a f))), some (.a (.lst (a0a g))), some (.d (.int ((w - 1 : Nat) : Int)))] : List (Option V)) = ρ
 have l1 : TEq W (k + 6) (.prim "len" [(.var 2)]) ρ [] (.int ((w - 1 + n : Nat) : Int)) := by
  have := TEq.len (W := W) (k := k + 6) (σ := []) (ρ := ρ) (e := .var 2) H.R.ok (tape := []) (cs := []) (v := .a (.lst (a0a f))) (x := .lst (a0a f)) (by erw [← hρ]; rfl) trivial rfl rfl (a1a hfl)
  rw [a0e, lf] at this; exact this
 have l2 : TEq W (k + 6) (.prim "len" [(.var 3)]) ρ [] (.int ((w - 1 + n : Nat) : Int)) := by
  have := TEq.len (W := W) (k := k + 6) (σ := []) (ρ := ρ) (e := .var 3) H.R.ok (tape := []) (cs := []) (v := .a (.lst (a0a g))) (x := .lst (a0a g)) (by erw [← hρ]; rfl) trivial rfl rfl (a1a hgl)
  rw [a0e, lg] at this; exact this
 have v2 : TEv W (k + 6) (.var 2) ρ [] (.a (.lst (a0a f))) := by erw [← hρ]; exact TE.var rfl ⟨rfl, rfl⟩
 have v3 : TEv W (k + 6) (.var 3) ρ [] (.a (.lst (a0a g))) := by erw [← hρ]; exact TE.var rfl ⟨rfl, rfl⟩
 have tne : TCv W (k + 6) (.cmp .Eq (.var 2) (.var 3)) ρ [] false := by
  have := TCv.cmp (op := .Eq) v2 v3 (.eq (σ := []) (x := .lst (a0a f)) (y := .lst (a0a g)) rfl rfl (a1v f) (a1v g) (b7n f))
  have e : eqD (.lst (a0a f)) (.lst (a0a g)) = false := by
   show eqDs (a0a f) (a0a g) = false
   erw [b0l, decide_eq_false_iff_not]; exact T.ne
  rw [e] at this; exact this
 have st1 : TEq W (k + 6) (.slice (.var 2) none (some (.var 4))) ρ [] (.lst (a0a (f.take (w - 1)))) := by
  have := TEq.sliceTo (W := W) (k := k + 6) (σ := []) (ρ := ρ) (a := .var 2) (hi := .var 4) (tape := []) (cs := []) (tape2 := []) (cs2 := []) (v := .a (.lst (a0a f))) (n := w - 1) (by erw [← hρ]; rfl) trivial (by erw [← hρ]; rfl) trivial (a5u f) (by erw [a0e]; exact om228 lf) (a1a hfl)
  unfold a0a at this ⊢
  erw [List.map_take]; exact this
 have st2 : TEq W (k + 6) (.slice (.var 3) none (some (.var 4))) ρ [] (.lst (a0a (f.take (w - 1)))) := by
  have := TEq.sliceTo (W := W) (k := k + 6) (σ := []) (ρ := ρ) (a := .var 3) (hi := .var 4) (tape := []) (cs := []) (tape2 := []) (cs2 := []) (v := .a (.lst (a0a g))) (n := w - 1) (by erw [← hρ]; rfl) trivial (by erw [← hρ]; rfl) trivial (a5u g) (by erw [a0e]; exact om228 lg) (a1a hgl)
  erw [T.beg]
  unfold a0a at this ⊢
  erw [List.map_take]; exact this
 have en : ((w - 1 + n : Nat) : Int) - ((w - 1 : Nat) : Int) = ((n : Nat) : Int) := by exact om229
 have sf1 : TEq W (k + 6) (.slice (.var 2) (some (.bin .Sub (.prim "len" [(.var 2)]) (.var 4))) none) ρ [] (.lst (a0a (f.drop n))) := by
  have := TEq.sliceFrom (W := W) (k := k + 6) (σ := []) (ρ := ρ) (a := .var 2) (lo := .bin .Sub (.prim "len" [(.var 2)]) (.var 4)) (tape := []) (cs := []) (tape2 := [.int ((w - 1 + n : Nat) : Int)]) (cs2 := [_]) (v := .a (.lst (a0a f))) (n := n) (by erw [← hρ]; rfl) trivial (by rw [← hρ, ← en]; rfl) ⟨by erw [hρ]; exact l1, trivial⟩ (a5u f) (by erw [a0e]; exact om230 lf) (a1a hfl)
  unfold a0a at this ⊢
  erw [List.map_drop]; exact this
 have sf2 : TEq W (k + 6) (.slice (.var 3) (some (.bin .Sub (.prim "len" [(.var 3)]) (.var 4))) none) ρ [] (.lst (a0a (f.drop n))) := by
  have := TEq.sliceFrom (W := W) (k := k + 6) (σ := []) (ρ := ρ) (a := .var 3) (lo := .bin .Sub (.prim "len" [(.var 3)]) (.var 4)) (tape := []) (cs := []) (tape2 := [.int ((w - 1 + n : Nat) : Int)]) (cs2 := [_]) (v := .a (.lst (a0a g))) (n := n) (by erw [← hρ]; rfl) trivial (by rw [← hρ, ← en]; rfl) ⟨by erw [hρ]; exact l2, trivial⟩ (a5u g) (by erw [a0e]; exact om230 lg) (a1a hgl)
  have hfin := T.fin
  rw [lf, lg, show w - 1 + n - (w - 1) = n by exact om231] at hfin
  erw [hfin]
  unfold a0a at this ⊢
  erw [List.map_drop]; exact this
 refine TS.iteC (b := false) (TCv.orN (b0c (x := .int ((w - 1 + n : Nat) : Int)) l1 l2 rfl rfl rfl (Nat.zero_le _)) (TCv.orN tne (TCv.or1 (b0c (x := .lst (a0a (f.take (w - 1)))) st1 st2 rfl rfl (b3q _) (b7n _))))) (fun h => by exact dFT h) fun ζ => TS.nil ?_
 refine TS.iteC (b := false) (b0c (x := .lst (a0a (f.drop n))) sf1 sf2 rfl rfl (b3q _) (b7n _)) (fun h => by exact dFT h) fun ζ => TS.nil ?_
 subst hρ
 refine TS.retV (tape := [.lst (a0a (onL s w t f)), .lst (a0a (onL s w t f))]) (cs := [_, _, _]) rfl ⟨⟨b3q _, b3q _, b7n _⟩, p2, p1, trivial⟩ ?_
 erw [a5d _ (b3q _)]; rfl
end
end Mine
end
section
open PySem PyProof.Rows PySem.SeqAt
namespace Mine
section
variable {W : World0} {k : Nat} {ρ : List (Option V)} {σ : List O}
theorem TE.clearS {p i : CE} {j : Nat} {l : List D} {Q : V -> List O -> Prop} (tr : TE W k (.sub p i) ρ σ fun v σ' => v = .r j /\ σ' = σ) (h0 : σ[j]? = some (.lst l)) (hz : l.length <= 16777216) (q : Q (.d .none) (σ.set j (.lst []))) :
  TE W k (.meth (.sub p i) "clear" []) ρ σ Q := fun names sc E he X hk hr hw Λ ad s S => by
 replace he := a7g he; obtain ⟨o, n, ap, args, pos, rfl, he⟩ := he
 simp only [Bool.and_eq_true, beq_iff_eq] at he
 obtain ⟨⟨⟨⟨hv, rfl⟩, hes⟩, _⟩, hl⟩ := he
 have hv' := hv
 replace hv' := b4t hv'; obtain ⟨v1, v2, px, rfl, hv'⟩ := hv'
 replace hes := a0n hes; obtain ⟨rfl, hes⟩ := hes
 refine Call_method0 rfl (by simpa using hl) ?_
 refine wpAny_mono (tr names sc _ hv X hk hr hw Λ ad s S) (fun v s₁ h₁ => ?_) fun ζ ζ f => f
 obtain ⟨val, σ1, Λ1, ad1, S1, P1, r₁, rfl, rfl⟩ := h₁
 have key : MethodOnS W.p W.w X.A (fun ζ ζ => False) (Str.ofString "clear") v pos [] (Post W.gl X names ρ σ1 Λ1 ad1 s₁ Q) s₁ := by
  refine a3y S1 r₁ h0 PySem.F.slot_list_clear PySem.F.type_list_clear fun a vs n hva ea h1 h2 => ?_
  refine PySem.P.clear_list (items := vs.toArray) (n := n) h1 ?_ (by simp only [List.size_toArray, h2.length]; exact hz)
  obtain ⟨n'', e''⟩ := a5f h1 fun ζ => #[]
  obtain ⟨S3, P3⟩ := S1.relist (t := s₁.toks) (n := n) (vs := vs) ea h0 (h' := s₁.heap.update a (Obj.mapSeq fun ζ => #[])) (fun b hb => Heap.get?_update_other _ _ (Ne.symm hb)) e'' (l' := []) .nil
  exact ⟨_, _, _, _, S3, P3, .d .none, q⟩
 obtain ⟨T, id, h1, h2, h3, h4, h5, h6⟩ := key
 exact ⟨T, id, h1, h2, h3, h4, h5, wpAny_mono h6 (fun v s₂ p => p.trans P1) fun ζ ζ f => f⟩
theorem TE.listData (hW : WOk W) {e : CE} {Q : V -> List O -> Prop} (t : TE W k e ρ σ fun v σ' => ∃ l, lstV σ' v = some l /\ l.length <= 16777216 /\ Q (.d (.lst l)) σ') : TE W k (.prim "list" [e]) ρ σ Q := fun names sc E he X hk hr hw Λ ad s S => by
 replace he := a2h he; obtain ⟨_, _, _, _, rfl, he⟩ := he
 simp only [Bool.and_eq_true] at he
 refine a3e hW (f := "list") (by decide) (v := .type "list") (by decide +kernel) (by decide) (.inr ⟨_, rfl⟩) (es := [e]) (by simp) he.1.1 he.1.2 hk hr hw S (Q := fun vals σ' => ∃ v l, vals = [v] /\ lstV σ' v = some l /\ l.length <= 16777216 /\ Q (.d (.lst l)) σ') (t.mono fun v σ' h => ?_) fun vs s₁ vals σ1 Λ1 ad1 S1 P1 r₁ q => ?_
 ·obtain ⟨l, h⟩ := h; exact ⟨v, l, rfl, h⟩
 ·obtain ⟨v, l, rfl, hl, hz, q⟩ := q
  obtain ⟨v', rfl, r⟩ := r₁.one
  obtain ⟨a, ws, n, rfl, h1, h2⟩ := a3a S1 r hl
  refine call_list_seq a (T := "list") (.inl rfl) h1 rfl rfl (fun h' c' hk hS => ?_) (by erw [List.size_toArray, h2.length]; exact hz)
  have kk : Kept X.env.locals s₁ { s₁ with heap := h' } := .of_keeps hk rfl rfl
  refine Post.trans P1 (Post.pure S1 kk (.d (.lst (vs := ws) (n := c') hS (fun hf => ?_) ?_)) q)
  ·obtain ⟨o, e'⟩ := S1.usedF _ hf
   exact absurd (Heap.lt_size e') (Nat.lt_irrefl _)
  ·exact h2.keep (((Step.of_kept S1 kk).keep S1).un)
end
end Mine
end
section
open PySem PyProof.Rows PySem.SeqAt
namespace Mine
structure Has9 (W : World0) : Prop where
 L : HasL W
 T : HasT W
 B : HasB9 W
 E : HasE W
 many : HasF W "_law_many" a9m
 pairs : HasF W "_law_pairs" a7q
 parted : HasF W "_law_parted" b0m
 steps_to : HasF W "_law_steps_to" a6c
 cells : HasF W "_law_cells" b0n
 are_twins : HasF W "_law_are_twins" a4q
 law : HasF W "law" F_law9
section
variable {W : World0} {k : Nat} {zs : List Int} {s w : Nat} {t : List Nat}
noncomputable def r9 (zs : List Int) (s w : Nat) (t : List Nat) (N : Nat) (bg : List (Nat × Nat)) (x4 x5 x6 x7 x8 : Option V) : List (Option V) := [some (.a (.lst (zs.map .int))), some (.d (a0m s w t)), some (.d (.lst ((a5z N).map a0f))), some (.d (.lst (bg.map a0f))), x4, x5, x6, x7, x8]
noncomputable def two9 (f g : List Nat) : D := .lst [.lst (a0a f), .lst (a0a g)]
theorem c3w (f g : List Nat) : a0q (two9 f g) = true := by
 show (a0r (a0a f) && (a0r (a0a g) && true)) = true
 erw [a1v, a1v]; rfl
theorem d0y (f g : List Nat) : dep (two9 f g) <= 200 := by
 show max (deps (a0a f) + 1) (max (deps (a0a g) + 1) 0) + 1 <= 200
 erw [a5p, a5p]; decide
theorem last9 (H : Has9 W) (R : OkR s w t) (N : Nat) (hNe : s ^ (w - 1) = N) {bg : List (Nat × Nat)} {x4 x7 x8 : Option V} {M : Nat} (hM0 : M = 0 ↔ tw s N t N = none) (hM1 : ∀ b, tw s N t N = some b -> M = b.2.2.1.length) : TS W (k + 7) (F_law9.body.drop 6) (r9 zs s w t N bg x4 (some (.d (.int (M : Int)))) none x7 x8) [] fun out ζ ζ => out = .ret (.d (.bool true)) := by
 have sp := b9i (k := k) H.T R
 rw [hNe] at sp
 have hN := R.pos
 rw [hNe] at hN
 have h16 := R.n16
 rw [hNe] at h16
 have w1 := R.w1
 have w4 := R.w4
 have hsp : 0 < s := Nat.lt_of_lt_of_le (by decide) R.s2
 refine TS.asgV (tape := []) (cs := []) rfl trivial ?_
 cases htw : tw s N t N with
 | none =>
  rw [htw] at sp
  have hM : M = 0 := hM0.mpr htw
  subst hM
  refine TS.forR H.L.ok (m := 2) (tape := []) (cs := []) rfl trivial (by decide) (fun n ρ σ => ∃ x7 x8, ρ = r9 zs s w t N bg x4 (some (.d (.int 0))) (some (.d .none)) x7 x8 /\ σ = []) ⟨x7, x8, rfl, rfl⟩ (fun n ρ1 σ1 hn η => exT2 (fun x7 x8 => ?_) η) (fun ρ1 σ1 η => exF2 (fun x7 x8 => ?_) η)
  ·refine TS.asgV (v := .d .none) (tape := [.none]) (cs := [_]) rfl ⟨sp, trivial⟩ ?_
   refine TS.iteC (b := true) (TCv.ev (tape := []) (cs := []) rfl trivial) (fun ζ => ?_) fun h => by exact dTF h
   exact TS.iteC (b := false) (TCv.ev (tape := []) (cs := []) rfl trivial) (fun h => by exact dFT h) fun ζ => TS.nil (TS.nil (TS.nil ⟨_, _, rfl, rfl⟩))
  ·exact TS.retV (tape := []) (cs := []) rfl trivial rfl
 | some b =>
  rw [htw] at sp
  have hM := hM1 b htw
  have hMne : M ≠ 0 := fun h => by rw [hM0.mp h] at htw; exact dNS htw
  refine xA (c6r w1 hsp hNe hN h16 R.s4 htw) fun T hTl => ?_
  generalize hf : digs s (w - 1) b.1 ++ b.2.2.1 = f at T
  generalize hg : digs s (w - 1) b.1 ++ b.2.2.2 = g at T
  have sp : Spec W (k + 7) "twins" [.d (a0m s w t)] (.tup [.lst (a0a f), .lst (a0a g)]) := by
   erw [← hf, ← hg]; exact sp
  rw [← hM] at T hTl
  have lf := T.lf
  have lg := T.lg
  have at_ := a9j (k := k) H.B H.cells H.are_twins R T (om232 hTl)
  obtain ⟨_, hft, F⟩ := sp
  refine TS.forR H.L.ok (m := 2) (tape := []) (cs := []) rfl trivial (by decide) (fun n ρ σ => ∃ x7 x8, ρ = r9 zs s w t N bg x4 (some (.d (.int (M : Int)))) (some (.d (if n = 0 then .none else two9 f g))) x7 x8) ⟨x7, x8, rfl⟩ (fun n _ σ hn ⟨x7, x8, e1⟩ => ?_) (fun _ σ ⟨x7, x8, e1⟩ => ?_)
  ·subst e1
   refine TS.cons (TS1.asg (TE.callR2 hft (by intro h; exact dCN h) (TE.var rfl ⟨[.d (a0m s w t)], _, .cons (.n rfl (b5l s w t)) .nil, F, fun r' hr' => ⟨f, g, hr', T.ne, ?_⟩⟩)))
   generalize hσ : σ ++ [O.lst (a0a f)] ++ [O.lst (a0a g)] = σ'
   have g1 : σ'[σ.length]? = some (.lst (a0a f)) := by erw [← hσ, List.append_assoc, List.getElem?_append_right (Nat.le_refl _), Nat.sub_self]; rfl
   have g2 : σ'[σ.length + 1]? = some (.lst (a0a g)) := by erw [← hσ]; simp
   show TS W (k + 7) _ (r9 zs s w t N bg x4 (some (.d (.int (M : Int)))) (some (.d (if n = 0 then .none else two9 f g))) (some (.d (.int (n : Int)))) (some (.t [.r σ.length, .r (σ.length + 1)]))) σ' _
   generalize hρ : r9 zs s w t N bg x4 (some (.d (.int (M : Int)))) (some (.d (if n = 0 then .none else two9 f g))) (some (.d (.int (n : Int)))) (some (.t [.r σ.length, .r (σ.length + 1)])) = ρ
   have v8 : TEv W (k + 7) (.var 8) ρ σ' (.t [.r σ.length, .r (σ.length + 1)]) := by erw [← hρ]; exact TE.var rfl ⟨rfl, rfl⟩
   have hview : a0h σ' (.t [.r σ.length, .r (σ.length + 1)]) = some (.tup [.lst (a0a f), .lst (a0a g)]) := by
    show (match a6q σ' [.r σ.length, .r (σ.length + 1)] with | some l => some (D.tup l) | none => none) = _
    have : a6q σ' [.r σ.length, .r (σ.length + 1)] = some [.lst (a0a f), .lst (a0a g)] := by
     show (match a0h σ' (.r σ.length), a6q σ' [.r (σ.length + 1)] with | some x, some xs => some (x :: xs) | _, _ => none) = _
     have e2 : a6q σ' [.r (σ.length + 1)] = some [.lst (a0a g)] := by
      show (match a0h σ' (.r (σ.length + 1)), a6q σ' [] with | some x, some xs => some (x :: xs) | _, _ => none) = _
      erw [c2g g2]; rfl
     erw [c2g g1, e2]
    erw [this]
   have s0 : TEv W (k + 7) (.sub (.var 8) (.int 0)) ρ σ' (.r σ.length) := by erw [← hρ]; exact TEv.ev (tape := []) (cs := []) rfl trivial
   have s1 : TEv W (k + 7) (.sub (.var 8) (.int 1)) ρ σ' (.r (σ.length + 1)) := by erw [← hρ]; exact TEv.ev (tape := []) (cs := []) rfl trivial
   have tc0 : TCv W (k + 7) (.cmp .Eq (.var 5) (.int 0)) ρ σ' false := by
    have e : ((M : Int) == 0) = false := beq_eq_false_iff_ne.mpr fun h => hMne (Int.ofNat.inj h)
    erw [← hρ, ← e]
    exact TCv.ev (tape := []) (cs := []) rfl trivial
   have tat : TEv W (k + 7) (.call "_law_are_twins" [(.var 1), (.var 8)]) ρ σ' (.d (.bool true)) :=
    TEv.call (by intro h; exact dCN h) (TEsv.cons (show TEv W (k + 7) (.var 1) ρ σ' (.d (a0m s w t)) by erw [← hρ]; exact TE.var rfl ⟨rfl, rfl⟩) (TEsv.cons v8 ⟨rfl, rfl⟩)) (.cons (.d _) (.cons (.a hview) .nil)) at_
   have l0 : TEq W (k + 7) (.prim "len" [(.sub (.var 8) (.int 0))]) ρ σ' (.int ((w - 1 + M : Nat) : Int)) :=
    TE.len H.L.ok (s0.to ⟨.lst (a0a f), w - 1 + M, c2g g1, by show some (a0a f).length = _; erw [a0e, lf], by exact om233 w4 hTl, rfl, rfl⟩)
   have rhs : TEq W (k + 7) (.bin .Add (.bin .Sub (.sub (.var 1) (.int 1)) (.int 1)) (.var 5)) ρ σ' (.int ((w - 1 + M : Nat) : Int)) := by
    have e : ((w - 1 + M : Nat) : Int) = (w : Int) - 1 + (M : Int) := by exact om234 w1
    erw [e, ← hρ]; exact TEq.ev (tape := []) (cs := []) rfl trivial
   have ld0 : TEq W (k + 7) (.prim "list" [(.sub (.var 8) (.int 0))]) ρ σ' (.lst (a0a f)) := TE.listData H.L.ok (s0.to ⟨a0a f, by show (match σ'[σ.length]? with | some (.lst l) => some l | _ => none) = _; erw [g1], a1a (om235 lf w4 hTl), rfl, rfl⟩)
   have ld1 : TEq W (k + 7) (.prim "list" [(.sub (.var 8) (.int 1))]) ρ σ' (.lst (a0a g)) := TE.listData H.L.ok (s1.to ⟨a0a g, by show (match σ'[σ.length + 1]? with | some (.lst l) => some l | _ => none) = _; erw [g2], a1a (om235 lg w4 hTl), rfl, rfl⟩)
   have kept : TEq W (k + 7) (.lst [(.prim "list" [(.sub (.var 8) (.int 0))]), (.prim "list" [(.sub (.var 8) (.int 1))])]) ρ σ' (two9 f g) := TEq.lstE (ds := [.lst (a0a f), .lst (a0a g)]) (TEsv.cons ld0 (TEsv.cons ld1 ⟨rfl, rfl⟩)) rfl
   have tc2 : TCv W (k + 7) (.and [(.cmp .Eq (.var 7) (.int 1)), (.cmp .NotEq (.lst [(.prim "list" [(.sub (.var 8) (.int 0))]), (.prim "list" [(.sub (.var 8) (.int 1))])]) (.var 6))]) ρ σ' false := by
    by_cases hn1 : n = 1
    ·subst hn1
     refine TCv.andT (by erw [← hρ]; exact TCv.ev (tape := []) (cs := []) rfl trivial) (TCv.and1 ?_)
     exact b0c (x := two9 f g) kept (show TEv W (k + 7) (.var 6) ρ σ' (.d (two9 f g)) by erw [← hρ]; exact TE.var rfl ⟨rfl, rfl⟩) rfl rfl (c3w f g) (d0y f g)
    ·have hn0 : n = 0 := by exact om236 hn hn1
     subst hn0
     exact TCv.andF (by erw [← hρ]; exact TCv.ev (tape := []) (cs := []) rfl trivial)
   refine TS.iteC (b := false) tc0 (fun h => by exact dFT h) fun ζ => ?_
   refine TS.iteC (b := false) (TCv.orN (TC.not ((TCv.of tat rfl).to ⟨rfl, rfl⟩)) (TCv.or1 (b0c (x := .int ((w - 1 + M : Nat) : Int)) l0 rhs rfl rfl rfl (Nat.zero_le _)))) (fun h => by exact dFT h) fun ζ => TS.nil ?_
   refine TS.iteC (b := false) tc2 (fun h => by exact dFT h) fun ζ => TS.nil ?_
   refine TS.asgE kept ?_
   subst hρ
   show TS W (k + 7) _ (r9 zs s w t N bg x4 (some (.d (.int (M : Int)))) (some (.d (two9 f g))) (some (.d (.int (n : Int)))) (some (.t [.r σ.length, .r (σ.length + 1)]))) σ' _
   have s0' : ∀ σ' : List O, TEv W (k + 7) (.sub (.var 8) (.int 0)) (r9 zs s w t N bg x4 (some (.d (.int (M : Int)))) (some (.d (two9 f g))) (some (.d (.int (n : Int)))) (some (.t [.r σ.length, .r (σ.length + 1)]))) σ' (.r σ.length) := fun σ' => TEv.ev (tape := []) (cs := []) rfl trivial
   have s1' : ∀ σ' : List O, TEv W (k + 7) (.sub (.var 8) (.int 1)) (r9 zs s w t N bg x4 (some (.d (.int (M : Int)))) (some (.d (two9 f g))) (some (.d (.int (n : Int)))) (some (.t [.r σ.length, .r (σ.length + 1)]))) σ' (.r (σ.length + 1)) := fun σ' => TEv.ev (tape := []) (cs := []) rfl trivial
   refine TS.cons (TS1.ex (TE.clearS (j := σ.length) ((s0' _).to ⟨rfl, rfl⟩) g1 (a1a (om235 lf w4 hTl)) ?_))
   have g3 : (σ'.set σ.length (.lst []))[σ.length + 1]? = some (.lst (a0a g)) := by rw [List.getElem?_set_ne om237]; exact g2
   refine TS.cons (TS1.ex (TE.appendS (j := σ.length + 1) ((s1' _).to ⟨rfl, rfl⟩) ⟨_, g3⟩ (TE.int ⟨.int 0, a0a g, rfl, g3, a1a (om235 lg w4 hTl), ?_⟩)))
   exact TS.nil (TS.nil ⟨_, _, by rw [if_neg (Nat.succ_ne_zero n)]⟩)
  ·subst e1
   exact TS.retV (tape := []) (cs := []) rfl trivial rfl
end
end Mine
end
section
open PySem PyProof.Rows PySem.SeqAt
namespace Mine
section
variable {W : World0} {k : Nat} {zs : List Int}
theorem law9 (H : Has9 W) (hl : zs.length <= 63) : TS W (k + 7) F_law9.body [some (.a (.lst (zs.map .int))), none, none, none, none, none, none, none, none] [] fun out ζ ζ => out = .ret (.d (.bool true)) := by
 have hz : zs.length <= 1000 := Nat.le_trans hl (by decide)
 have C : ∀ (n : Nat), Spec W (k + 7) "_law_cell_at" [.a (.lst (zs.map .int)), .d (.int n)] (.int (b1h zs n)) := fun n => b3g H.L hz
 obtain ⟨_, ⟨s, w, t, R, rfl⟩, sp⟩ := c1u (k := k + 4) H.L (b1h zs 0) (b1h zs 1)
 have hN := R.pos
 have hN8 := R.n8
 have h16 := R.n16
 have s4 := R.s4
 have many : Spec W (k + 7) "_law_many" [.d (a0m s w t)] (.int ((s ^ (w - 1) : Nat) : Int)) := a8j H.many R
 have part : ∀ p : Nat × Nat, p.1 < s ^ (w - 1) -> p.2 < s ^ (w - 1) -> Spec W (k + 7) "_law_parted" [.d (a0m s w t), .d (a0f p)] (.lst ((parP s (s ^ (w - 1)) t p).map a0f)) := fun p h1 h2 => a9a (k := k + 4) H.L.ok H.many H.pairs H.parted R h1 h2
 have hlen : t.length = s ^ (w - 1) * s := by
  have h := R.w1
  erw [R.len, ← Nat.pow_succ]; congr 1; exact om238 h
 have twm := d0v (s := s) (t := t) (w := w) rfl R.s2 hN hN8 h16 s4 hlen R.sign
 have miss : Spec W (k + 7) "missing" [.d (a0m s w t)] (c1s (a4t s (s ^ (w - 1)) t)) := b3l (k := k + 1) H.E R
 have hbl : (begL s (s ^ (w - 1)) t (s ^ (w - 1))).length < 60 := by
  have h := b2e (s := s) (N := s ^ (w - 1)) (t := t) (s ^ (w - 1))
  rw [← Nat.mul_assoc] at h
  have h3 : s ^ (w - 1) * s * (s - 1) <= 16 * 3 := Nat.mul_le_mul h16 (om239 s4)
  exact om240 h h3
 have bok := d0w (s := s) (N := s ^ (w - 1)) (t := t)
 have hbn : ∀ n, n <= s ^ (w - 1) -> (begL s (s ^ (w - 1)) t n).length <= 1000 := fun n hn => by
  have h := b2e (s := s) (N := s ^ (w - 1)) (t := t) n
  have h2 : s * (s - 1) <= 4 * 3 := Nat.mul_le_mul s4 (om239 s4)
  have h3 : n * (s * (s - 1)) <= 8 * (4 * 3) := Nat.mul_le_mul (om241 hn hN8) h2
  exact om242 h h3
 have sto : Spec W (k + 7) "_law_steps_to" [.d (a0m s w t), .d (.lst ((begL s (s ^ (w - 1)) t (s ^ (w - 1))).map a0f)), .d (.lst ((a5z (s ^ (w - 1))).map a0f))] (.int ((a0x s (s ^ (w - 1)) t (begL s (s ^ (w - 1)) t (s ^ (w - 1))) diag : Nat) : Int)) := by
  erw [← b4i hN (bok.lt hN)]
  exact a6p (k := k + 4) H.L.ok H.many H.pairs H.steps_to R hbl (by unfold a5z; erw [List.length_map, List.length_range]; exact om243 hN8) (bok.lt hN)
 have z0 := c3q (s := s) (t := t) hN h16 s4 bok
 have z1 : ∀ b, tw s (s ^ (w - 1)) t (s ^ (w - 1)) = some b -> a0x s (s ^ (w - 1)) t (begL s (s ^ (w - 1)) t (s ^ (w - 1))) diag = b.2.2.1.length := fun b h => tw_len hN h16 s4 bok h
 have fin := @last9 W k zs s w t H R (s ^ (w - 1)) rfl
 generalize hNe : s ^ (w - 1) = N at *
 generalize hM : a0x s N t (begL s N t N) diag = M at *
 refine TS.asgV (v := .d (a0m s w t)) (tape := [.int (b1h zs 0), .int (b1h zs 1), a0m s w t]) (cs := [_, _, _]) rfl ⟨sp, C 1, C 0, trivial⟩ ?_
 refine TS.asgCR H.L.ok (m := N) (tape := [.int (N : Int)]) (cs := [_]) (fun j => a0f (j, j)) rfl ⟨many, trivial⟩ (om220 hN8) (fun j hj => TEq.ev (tape := []) (cs := []) rfl trivial) ?_
 have eg : (List.range N).map (fun j => a0f (j, j)) = (a5z N).map a0f := by unfold a5z; erw [List.map_map]; rfl
 erw [eg]
 refine TS.asgV (v := .d (.lst [])) (tape := []) (cs := []) rfl trivial ?_
 have hgl : ((a5z N).map a0f).length = N := by unfold a5z; erw [List.length_map, List.length_map, List.length_range]
 refine TS.forS (tape := []) (cs := []) (c := true) (l := ((a5z N).map a0f).map V.d) rfl trivial rfl rfl (by erw [List.length_map, hgl]; exact om220 hN8)
  (fun n ρ σ => ∃ x4, ρ = r9 zs s w t N (begL s N t n) x4 none none none none /\ σ = []) ⟨none, rfl, rfl⟩ (fun n x ρ1 σ1 hx η => exT1 (fun x4 => ?_) η) (fun ρ1 σ1 η => exF1 (fun x4 => ?_) η)
 ·obtain ⟨p, hp, rfl⟩ := b1k hx
  have hpn : n < N /\ p = (n, n) := by
   unfold a5z at hp
   rw [List.getElem?_map] at hp
   obtain ⟨e, he, rfl⟩ := Option.map_eq_some_iff.mp hp
   obtain ⟨h1, h2⟩ := List.getElem?_eq_some_iff.mp he
   rw [List.length_range] at h1
   rw [List.getElem_range] at h2
   subst h2
   exact ⟨h1, rfl⟩
  obtain ⟨hn, rfl⟩ := hpn
  have b1 := hbn n (om244 hn)
  have b2 := hbn (n + 1) (om4 hn)
  rw [a8y, List.length_append] at b2
  refine TS.asgV (tape := [.lst ((parP s N t (n, n)).map a0f)]) (cs := [_, _]) rfl ⟨?_, part (n, n) hn hn, trivial⟩ (TS.nil ⟨some (.d (a0f (n, n))), ?_, rfl⟩)
  ·erw [List.length_map, List.length_map]; exact Nat.le_trans (show _ <= 1000 from b2) (by decide)
  ·erw [a8y]
   show [_, _, _, some (V.d (.lst ((begL s N t n).map a0f ++ (begP s N t n).map a0f))), _, _, _, _, _] = _
   erw [← List.map_append]
   rfl
 ·erw [List.length_map, hgl]
  refine TS.asgV (v := .d (.int (M : Int))) (tape := [.int (M : Int)]) (cs := [_]) rfl ⟨sto, trivial⟩ ?_
  have tc : TCv W (k + 7) (.cmp .NotEq (.cmp .Eq (.var 5) (.int 0)) (.cmp .Is (.call "missing" [(.var 1)]) .none)) (r9 zs s w t N (begL s N t N) x4 (some (.d (.int (M : Int)))) none none none) [] false := by
   have e1 : TEv W (k + 7) (.cmp .Eq (.var 5) (.int 0)) (r9 zs s w t N (begL s N t N) x4 (some (.d (.int (M : Int)))) none none none) [] (.d (.bool ((M : Int) == 0))) := TEv.ev (tape := []) (cs := []) rfl trivial
   have e2 : TEv W (k + 7) (.cmp .Is (.call "missing" [(.var 1)]) .none) (r9 zs s w t N (begL s N t N) x4 (some (.d (.int (M : Int)))) none none none) [] (.d (.bool ((a4t s N t).find? (fun p => p.1.isEmpty)).isNone)) := by
    unfold c1s at miss
    cases hfm : (a4t s N t).find? (fun p => p.1.isEmpty) with
    | none =>
     rw [hfm] at miss
     exact TEv.ev (tape := [.none]) (cs := [_]) rfl ⟨miss, trivial⟩
    | some p =>
     rw [hfm] at miss
     exact TEv.ev (tape := [.lst (a0a p.2)]) (cs := [_]) rfl ⟨miss, trivial⟩
   have eb : ((M : Int) == 0) = ((a4t s N t).find? (fun p => p.1.isEmpty)).isNone := by
    rw [Bool.eq_iff_iff, beq_iff_eq, Option.isNone_iff_eq_none, ← twm, ← z0]
    exact ⟨fun h => Int.ofNat.inj h, fun h => by erw [h]; rfl⟩
   rw [← eb] at e2
   exact b0c (x := .bool ((M : Int) == 0)) e1 e2 rfl rfl rfl (Nat.zero_le _)
  refine TS.iteC (b := false) tc (fun h => by exact dFT h) fun ζ => TS.nil ?_
  exact fin z0 z1
end
end Mine
end
section
open PySem PySem.W PyProof.Rows
namespace Mine
theorem c3x {R : WRecords} {xs : List WData} (h : WShape.hasItems R xs .int = true) : ∃ zs : List Int, xs = zs.map WData.int := by
 induction xs with
 | nil => exact ⟨[], rfl⟩
 | cons x xs ih =>
  have h := Bool.and_eq_true_iff.mp h
  obtain ⟨i, rfl⟩ := hasW_int h.1
  obtain ⟨zs, rfl⟩ := ih h.2
  exact ⟨i :: zs, rfl⟩
theorem c6y {l : OpenLaw} (h63 : l.most = some 63) {args : List WData} (hpre : l.row.toRowW.claim.pre args = true) : ∃ zs : List Int, args = [.list (zs.map .int)] /\ zs.length <= 63 := by
 obtain ⟨h1, h2⟩ := pre_splitW hpre
 have h1 : WShape.hasAll [] args [.list .int] = true := h1
 obtain ⟨d, r, rfl, hd, hr⟩ := hasAllW_cons h1
 have := hasAllW_nil hr
 subst this
 obtain ⟨xs, rfl, hx⟩ := hasW_list hd
 obtain ⟨zs, rfl⟩ := c3x hx
 refine ⟨zs, rfl, ?_⟩
 have h2 : l.pre.holds [] { args := [.list (zs.map .int)] } = true := h2
 unfold OpenLaw.pre at h2
 rw [h63] at h2
 have h3 := (holds_andW h2).1
 simp [WTm.holds, WTm.value] at h3
 have e : less? (WData.int 63) (WData.int (zs.length : Int)) = some (decide ((63 : Int) < (zs.length : Int))) := by
  first | rfl | simp [less?] | (unfold less?; simp)
 rw [e] at h3
 by_cases hlt : (63 : Int) < (zs.length : Int)
 ·rw [decide_eq_true hlt] at h3; exact dFT h3
 ·omega
end Mine
end
section
open PySem PySem.W PyProof.Rows
namespace Mine
theorem c3y {P : Params} {h : Heap} {gl : Str -> Option Value} {G : Addr -> Prop} {vs : List Value} {zs : List Int} (x : WellAll P h vs (zs.map WData.int)) : DRels gl h G vs (zs.map D.int) := by
 induction zs generalizing vs with
 | nil => cases x; exact .nil
 | cons z zs ih =>
  cases x with
  | cons a b => cases a; exact .cons (.int _ _) (ih b)
theorem c6z (l : OpenLaw) (args : List WData) : l.row.toRowW.claim.post args (.bool true) args = true := by
 show (WShape.has [] (.bool true) .bool && (WTm.eq .res (.lit (.bool true))).holds [] { args := args, res := some (.bool true), after := args }) = true
 erw [Bool.and_eq_true]
 exact ⟨by decide +kernel, by simp [WTm.holds, WTm.value, same]⟩
theorem law_end {l : OpenLaw} (h63 : l.most = some 63) {q : Program} {loose : List Str} {R : WRecords} {XP : (Str -> Option Value) -> Heap -> Prop} {w : World} {s₀ s₁ : Shared} {mg mb : Str -> Option Value} (G : Ground q loose R XP w s₀ mg mb s₁.heap) {fa : Addr} (hmg : mg (Str.ofString "law") = some (.ref fa)) (hg : s₁.gens = #[])
  {args : List WData} {vals : List Value} (hpre : l.row.toRowW.claim.pre args = true) (hwl : WellAll w.params s₁.heap vals args) {K : Nat} (hK : Room callerA K) (hfree : c7g q (looseW q loose) = true)
  (hlaw : ∀ W : World0, W.q = q -> WOk W -> ∀ zs : List Int, zs.length <= 63 -> Fun W K "law" [.a (.lst (zs.map .int))] fun r => r = .bool true) :
  wpAny (model l.row.prog w) callerA (PySem.call (.ref fa) vals) (fun v s' => GoodWG l.row.toRowW.claim (classAt s₀.heap) (ExcName.means s₀.heap) args s₁ (.ok (.ret v)) s')
   (fun e s' => GoodWG l.row.toRowW.claim (classAt s₀.heap) (ExcName.means s₀.heap) args s₁ (.error e) s') s₁ := by
 obtain ⟨zs, rfl, hz⟩ := c6y h63 hpre
 cases hwl with
 | cons hw1 hw2 =>
  cases hw2
  cases hw1 with
  | list ha hitems =>
   let W : World0 := { p := l.row.prog, q := q, w := w, loose := looseW q loose, mean := ExcName.means s₀.heap, gl := mg, mb := mb }
   have hok : WOk W := ⟨fun x hx => by
    have h := List.all_eq_true.mp hfree x hx
    simp only [Bool.and_eq_true, Bool.not_eq_true', List.contains_eq_mem, decide_eq_false_iff_not] at h
    exact G.T.free _ h.1.1.1.1 h.1.1.1.2 h.1.1.2 h.1.2 h.2⟩
   have F := hlaw W rfl hok zs hz
   refine wpAny_mono (F callerA s₁ [.ref _] noL hK G.T (fun a h => h.elim) (.cons (.a (.lst (n := 0) ha (fun h => h) (c3y hitems))) .nil) fa hmg).2 (fun v s' h => ?_) fun ζ ζ f => f.elim
   obtain ⟨r, rfl, h1, h2, h3, h4⟩ := h
   cases h4
   exact GoodW.toG ⟨.inl ⟨.bool true, .bool true, [], rfl, fun ζ => rfl, .bool true, c6z l _, fun ζ => ⟨List.nodup_nil, fun a h => absurd h (List.not_mem_nil)⟩⟩, h1, h2, h3.trans hg⟩
theorem has_of {W : World0} {q : Program} (hq : W.q = q) {f : String} {F : CF} (h : ((recsOf q).any fun d => d.name == Str.ofString f && isF F d) = true) : HasF W f F := by
 refine xEA (List.any_eq_true.mp h) fun d hd h => ?_
 rw [Bool.and_eq_true] at h
 exact ⟨d, by erw [hq]; exact hd, beq_iff_eq.mp h.1, h.2⟩
theorem a0j {W : World0} {q : Program} (hq : W.q = q) {l : List (String × CF)} (h : b9u q l = true) {f : String} {F : CF} (i : Nat) (hm : l[i]? = some (f, F)) : HasF W f F :=
 has_of hq (List.all_eq_true.mp h (f, F) (List.mem_of_getElem? hm))
set_option tactic.hygienic true in
theorem b2h {W : World0} {q : Program} (hq : W.q = q) {l : List (String × Int)} (h : b4p q l = true) {f : String} {F : Int} (i : Nat) (hm : l[i]? = some (f, F)) : HasC W f F := by
 have h := List.all_eq_true.mp h (f, F) (List.mem_of_getElem? hm)
 unfold HasC
 erw [hq]
 dsimp only at h
 split at h
 ·rename_i e; erw [e, beq_iff_eq.mp h]
 ·exact dFT h
end Mine
end
open PySem PySem.W PyProof.Rows
namespace Mine
theorem h9_of {W : World0} {q : Program} (hq : W.q = q) (hok : WOk W) (h : b9u q defs9 = true) (hc : b4p q cons9 = true) : Has9 W :=
 have hR : HasR W := { ok := hok, is_among := a0j hq h 0 rfl, rows_of := a0j hq h 1 rfl, is_rule := a0j hq h 2 rfl, need_rule := a0j hq h 3 rfl, c1 := b2h hq hc 0 rfl, c2 := b2h hq hc 1 rfl, c3 := b2h hq hc 2 rfl }
 have hS : HasS W := { R := hR, many_ends := a0j hq h 9 rfl, told_by := a0j hq h 10 rfl, onward := a0j hq h 11 rfl }
 {L := { ok := hok, cell_at := a0j hq h 21 rfl, mixed := a0j hq h 22 rfl, random := a0j hq h 23 rfl, mending := a0j hq h 24 rfl, between := a0j hq h 25 rfl, beside := a0j hq h 26 rfl, turned := a0j hq h 27 rfl, rule := a0j hq h 28 rfl }
  T := { S := hS, cells_of := a0j hq h 15 rfl, pair_steps := a0j hq h 16 rfl, walked := a0j hq h 17 rfl, is_one := a0j hq h 18 rfl, parted_from := a0j hq h 19 rfl, twins := a0j hq h 20 rfl }
  B := { R := hR, number_of := a0j hq h 4 rfl, is_piece := a0j hq h 5 rfl, need_piece := a0j hq h 6 rfl, sign_of := a0j hq h 7 rfl, piece_on := a0j hq h 8 rfl }
  E := { G := { S := hS, ends_behind := a0j hq h 12 rfl }, gone_through := a0j hq h 13 rfl, missing := a0j hq h 14 rfl }
  many := a0j hq h 29 rfl, pairs := a0j hq h 30 rfl, parted := a0j hq h 31 rfl, steps_to := a0j hq h 32 rfl, cells := a0j hq h 33 rfl, are_twins := a0j hq h 34 rfl
  law := a0j hq h 35 rfl }
theorem law9_fun {W : World0} (H : Has9 W) {zs : List Int} (hl : zs.length <= 63) : Fun W 8 "law" [.a (.lst (zs.map .int))] fun r => r = .bool true := by
 have S : Spec W 8 "law" [.a (.lst (zs.map .int))] (.bool true) := Spec.intro H.law rfl ((law9 (k := 0) H hl).mono fun out ρ σ h => by subst h; rfl)
 obtain ⟨_, _, F⟩ := S
 exact F
end Mine
set_option tactic.hygienic true in
theorem PySem.Challenge.cw_uf020003_09_holds : PySem.Challenge.rw_uf020003_09.Holds := by
 refine Mine.head9 fun q R XP w s₀ s₁ mg mb hq G fa hmg hg args vals hpre hwl => ?_
 have h := Bool.and_eq_true_iff.mp hq
 have h2 := Bool.and_eq_true_iff.mp h.1
 exact Mine.law_end rfl G hmg hg hpre hwl (K := 8) ⟨rfl, by decide, by decide⟩ h2.1 (fun W hq hok zs hl => Mine.law9_fun (Mine.h9_of hq hok h2.2 h.2) hl)
