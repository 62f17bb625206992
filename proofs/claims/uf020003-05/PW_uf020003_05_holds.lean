import PyProof.Rows.All
import Open.Line
import PyProof.FactsAll.tuple_2
import PyProof.ListCopy
import PyProof.SeqI3
import PySem.Challenge.RW_uf020003_05
set_option Elab.async false
set_option linter.all false
set_option maxRecDepth 100000
set_option genSizeOfSpec false
set_option genSizeOf false
set_option genInjectivity false
set_option bootstrap.genMatcherCode false
set_option tactic.hygienic false
local macro_rules
  | `(tactic| erw [$h:term]) => `(tactic| ((first | refine Eq.symm ($h ..) ▸ ?_ | refine Eq.symm ($h _) ▸ ?_ | refine Eq.symm ($h _ _) ▸ ?_ | rewrite [$h:term]); try (with_reducible rfl)))
  | `(tactic| erw [← $h:term]) => `(tactic| ((first | refine ($h ..) ▸ ?_ | refine ($h _) ▸ ?_ | rewrite [← $h:term]); try (with_reducible rfl)))
  | `(tactic| erw [$h:term, $rs,*]) => `(tactic| ((first | refine Eq.symm ($h ..) ▸ ?_ | refine Eq.symm ($h _) ▸ ?_ | refine Eq.symm ($h _ _) ▸ ?_ | rewrite [$h:term]); erw [$rs,*]))
  | `(tactic| erw [← $h:term, $rs,*]) => `(tactic| ((first | refine ($h ..) ▸ ?_ | refine ($h _) ▸ ?_ | rewrite [← $h:term]); erw [$rs,*]))
section
open PySem PyProof.Rows
namespace Mine
theorem dNS {α : Type} {x : α} {P : Prop} (h : none = some x) : P := nomatch h
theorem dSN {α : Type} {x : α} {P : Prop} (h : some x = none) : P := nomatch h
theorem dGN {α : Type} {y : Option α} {x : α} {P : Prop} (k : y = none) (h : y = some x) : P := dNS (k.symm.trans h)
theorem dFT {P : Prop} (h : false = true) : P := Bool.noConfusion h
theorem dTF {P : Prop} (h : true = false) : P := Bool.noConfusion h
theorem dCN {α : Type} {x : α} {l : List α} {P : Prop} (h : x :: l = []) : P := nomatch h
theorem om0 {a : Nat} : a ≤ 16777216 → a ≤ 16777216 := fun h0 => h0
theorem om1 {a b c d : Nat} : a + 5 * d + 300 < c → b ≤ 200 → a + b < c := by lia
theorem om2 {a b c : Nat} : a + 5 * c + 300 < b → a + 1 < b := by lia
theorem om3 {a b : Nat} : a < b → a + 1 ≤ b := fun h0 => Nat.succ_le_of_lt h0
theorem om4 {b c : Nat} {a : Int} : (0 : Int) ≤ a + (↑b : Int) ∧ a + (↑b : Int) < (↑b : Int) → (a + (↑b : Int)).toNat = c → a < (0 : Int) ∧ -(↑b : Int) ≤ a ∧ c = (a + (↑b : Int)).toNat ∧ c < b := by lia
theorem om5 {b c : Nat} {a : Int} : (0 : Int) ≤ a ∧ a < (↑c : Int) → Int.toNat a = b → (0 : Int) ≤ a ∧ b = Int.toNat a ∧ b < c := by lia
theorem om6 {a c : Nat} {b : Int} : -(↑c : Int) ≤ b → a = c → -(↑a : Int) ≤ b := fun h0 h1 => le_of_eq_of_le (congrArg Neg.neg (congrArg Nat.cast h1)) h0
theorem om7 {a b c : Nat} : a + (b + 1) < c → a + 1 + b < c := by lia
theorem om8 {a b c : Nat} : a + 5 * (b + 1) + 300 < c → a + 3 + 5 * b + 300 < c := by lia
theorem om9 {a b c d e : Nat} : a = c → d = b → e = c → e = min c d → a + (b - c) = d := by lia
theorem om10 {a b c : Nat} : a + (c + 1) < b → a + 1 < b := by lia
theorem om11 {a b : Nat} : b < a → a - (b + 1) < a - b := fun h0 => Nat.sub_succ_lt_self a b h0
theorem om12 {a : Int} : a ≤ (16777216 : Int) → a ≤ (16777216 : Int) := fun h0 => h0
theorem om13 {a : Nat} : ¬(↑a : Int) < (0 : Int) := Int.not_ofNat_neg a
theorem om14 {a b c : Int} : a ≤ b → b ≤ c → a ≤ c := fun a_1 a_2 => Int.le_trans a_1 a_2
theorem om15 {a b : Int} : a ≤ b ∨ b ≤ a := Int.le_total a b
theorem om16 {a b : Nat} : a = b → b < 64 → a ≤ 16777216 := by lia
theorem om17 {a b : Nat} : a = b → b < 64 → a < 64 := fun h0 h1 => lt_of_eq_of_lt h0 h1
theorem om18 {a b : Nat} : a + b + 1 = a + 1 + b := Nat.add_right_comm a b 1
theorem om19 {a b c : Nat} : a ≤ b → b < c → c ≤ 16777216 → a + 1 ≤ 16777216 := by lia
theorem om20 {a b : Nat} : b < a → a + 1 - (b + 1) < a + 1 - b := fun h => Nat.sub_lt_sub_left (Nat.lt_succ_of_lt h) (Nat.lt_succ_self b)
theorem om21 {a b : Nat} : (↑a : Int) < (↑b : Int) → a < b := fun h0 => Int.ofNat_lt.mp h0
theorem om22 {a b : Nat} : a < b → (0 : Int) ≤ (↑a : Int) ∧ (↑a : Int) < (↑b : Int) := by lia
theorem om23 {a b : Nat} : a < b → (↑a : Int) ≤ (↑b : Int) := by lia
theorem om24 {a b c : Nat} : a ≤ c → c ≤ b → max (0 : Int) (min (↑a : Int) (↑b : Int)) = (↑a : Int) ∧ max (0 : Int) (min (↑c : Int) (↑b : Int)) = (↑c : Int) := fun h k => ⟨by rw [Int.min_eq_left (Int.ofNat_le.2 (Nat.le_trans h k))]; exact Int.max_eq_right (Int.natCast_nonneg a), by rw [Int.min_eq_left (Int.ofNat_le.2 k)]; exact Int.max_eq_right (Int.natCast_nonneg c)⟩
theorem om25 {a b : Nat} : (((↑a : Int) - (↑b : Int) + (1 : Int) - (1 : Int)) / (1 : Int)).toNat = a - b := by rw [Int.ediv_one, Int.add_sub_cancel]; exact Int.toNat_sub a b
theorem om26 {a b : Nat} : ((↑a : Int) + (1 : Int) * (↑b : Int)).toNat = a + b := by rw [Int.one_mul]; exact Int.toNat_natCast (a + b)
theorem om27 {a b : Nat} : ¬(↑b : Int) < (↑a : Int) → a - b = (0 : Nat) := fun h => Nat.sub_eq_zero_of_le (Nat.le_of_not_lt fun k => h (Int.ofNat_lt.2 k))
theorem om28 {a b c : Nat} : a + 1 ≤ b - c → a ≤ b - c := by lia
theorem om29 {a b c : Nat} : b + 1 ≤ c - a → a + b < c := fun h0 => Nat.add_lt_of_lt_sub' h0
theorem om30 {a b c : Nat} : a ≤ c → a - b ≤ c - b := fun h0 => Nat.sub_le_sub_right h0 b
theorem om31 {a : Nat} : (0 : Int) = max (0 : Int) (min (0 : Int) (↑a : Int)) := Int.neg_inj.mp rfl
theorem om32 {a b : Nat} : a ≤ b → a < b + 1 := fun h0 => Nat.lt_succ_of_le h0
theorem om33 {a b c : Nat} : c < b → ¬c < a → a ≤ b := by lia
theorem om34 {a b : Nat} : ¬b < a → a ≤ b := fun h0 => Nat.le_of_not_lt h0
theorem om35 {a b : Nat} : min a b + (b - a + 1) = b + 1 := by rw [← Nat.add_assoc, Nat.add_comm (min a b), Nat.min_comm, Nat.sub_add_min_cancel]
theorem om36 {a b : Nat} : a ≤ b → b ≠ a → a < b := fun h0 h1 => Nat.lt_of_le_of_ne h0 (id (Ne.symm h1))
theorem om37 {a b c : Nat} : a ≤ c → b = c → min a b = a := by lia
theorem om38 {a b : Nat} : a ≤ b → min a b = a := by lia
theorem om39 {a b c : Nat} : a < c → b = c → a < b := fun h0 h1 => Nat.lt_of_lt_of_eq h0 (id (Eq.symm h1))
theorem om40 {a b c : Nat} : a = c → ¬b < c → a ≤ b := by lia
theorem om41 {a b : Nat} : ¬a < b → ¬a = b → a - b = a - b - 1 + 1 := fun h k => (Nat.sub_add_cancel (Nat.sub_pos_of_lt (Nat.lt_of_le_of_ne (Nat.le_of_not_lt h) fun e => k e.symm))).symm
theorem om42 {a : Nat} : a < 5 → a ≠ 4 → a + 1 < 5 := by lia
theorem om43 {a : Nat} : ¬a < 5 → ¬a + 1 < 5 := by lia
theorem om44 {a b : Nat} : a = b + 1 → b = 4 → a = 5 := by lia
theorem om45 {a : Nat} : a ≤ 9 → a ≤ 16777216 := by lia
theorem om46 {a b : Nat} : a = b → b ≤ 8 → a < 4096 := by lia
theorem om47 {a b : Nat} : (↑a : Int) = (↑b : Int) → a = b := fun h0 => Int.ofNat_inj.mp h0
theorem om48 {a b : Nat} : a = b + 1 → b ≤ 8 → a ≤ 9 := by lia
theorem om49 {a b : Nat} : a ≤ b → b - a = 0 → a = b := fun h k => Nat.le_antisymm h (Nat.le_of_sub_eq_zero k)
theorem om50 {a b c : Nat} : b - a = c + 1 → a < b := fun h0 => Nat.lt_of_sub_eq_succ h0
theorem om51 {a b c : Nat} : a - b = c + 1 → a - (b + 1) = c := fun h => congrArg Nat.pred h
theorem om52 {a b c : Nat} : a < c → c = b → a < b := fun h0 h1 => Nat.lt_of_lt_of_eq h0 h1
theorem om53 {a : Nat} : a - 0 = a - 0 := Nat.sub_zero a
theorem om54 {a b : Nat} : a = b + 1 → 0 < a := fun h0 => Nat.lt_of_sub_eq_succ h0
theorem om55 {a b : Nat} : a = b + 1 → a - 1 = b := fun h0 => Eq.symm (Nat.eq_sub_of_add_eq (id (Eq.symm h0)))
theorem om56 {a b : Nat} : a = b → a ≤ b := fun h0 => Nat.le_of_eq h0
theorem om57 {a b : Nat} : a = b → b ≤ 8 → a ≤ 16777216 := by lia
theorem om58 {a : Nat} : a < a + 1 := Nat.lt_add_one a
theorem om59 {a b : Nat} : a < b → a < b + 1 := fun h0 => Nat.lt_add_right 1 h0
theorem om60 {a b : Nat} : a < b + 1 → ¬a = b → a < b := by lia
theorem om61 {a : Nat} : a ≤ 8 → a < 64 := by lia
theorem om62 {a b : Nat} : 0 < b → a ≤ b - 1 → a < b := fun h0 h1 => Nat.lt_of_le_pred h0 h1
theorem om63 {a b : Nat} : a < b → a ≤ b - 1 := fun h0 => Nat.le_sub_one_of_lt h0
theorem om64 {a : Nat} : (↑a : Int) - (1 : Int) - (-1 : Int) - (1 : Int) + (1 : Int) = (↑a : Int) := by lia
theorem om65 {a : Nat} : ¬(↑a : Int) - (1 : Int) > (-1 : Int) → (0 : Int) = (↑a : Int) := by lia
theorem om66 : (-1 : Int).natAbs < (1073741824 : Nat) := Nat.lt_of_sub_eq_succ rfl
theorem om67 {a : Nat} : a ≤ 1000 → a ≤ 16777216 := by lia
theorem om68 {a b c d : Nat} : a + d ≤ c → b < d → a + b < c := by lia
theorem om69 {a b c : Nat} : c < b + 1 - a → min a (b - c) = a := fun h => Nat.min_eq_left (Nat.le_sub_of_add_le (Nat.le_of_lt_succ (Nat.add_comm c a ▸ Nat.add_lt_of_lt_sub h)))
theorem om70 {a b c : Nat} : a < c + 1 - b → a + b ≤ c := fun h => Nat.le_of_lt_succ (Nat.add_lt_of_lt_sub h)
theorem om71 {a b : Nat} : b - (1 : Nat) ≤ a → (↑a : Int) - (↑b : Int) + (1 : Int) = (↑(a + (1 : Nat) - b) : Int) := by lia
theorem om72 {a b : Nat} : 1 ≤ b → a ≤ 1000 → a + 1 - b ≤ 1000 := fun h k => Nat.le_trans (Nat.sub_le_sub_left h (a + 1)) k
theorem om73 {a b : Nat} : 0 < a + b → ¬0 < b → 0 < a := by lia
theorem om74 {a b : Nat} : 0 < a → 0 < a + b := fun h0 => Nat.add_pos_left h0 b
theorem om75 {a b : Nat} : 0 < b + a → ¬0 < b → 0 < a := by lia
theorem om76 {a : Nat} : a ≤ 8 → 1 * a ≤ 16777216 := by lia
theorem om77 {a : Nat} : a ≤ 8 → a ≤ 16777216 := by lia
theorem om78 {a b c : Nat} : (a + b) % c < c → (↑((a + b) % c) : Int) < (↑c : Int) := fun h0 => Int.ofNat_lt.mpr h0
theorem om79 {a b : Nat} : b ≤ a + 1 → a + 1 + 1 - b = a + 1 - b + 1 := fun h0 => Nat.sub_add_comm h0
theorem om80 {a : Nat} : 1 ≤ a → a - 1 + 1 - a = 0 := fun h => by rw [Nat.sub_add_cancel h, Nat.sub_self]
theorem om81 {a b : Nat} : a ≤ a - 1 + b + 1 := Nat.le_trans (Nat.sub_le_iff_le_add.1 (Nat.le_refl (a - 1))) (Nat.succ_le_succ (Nat.le_add_right _ b))
theorem om82 {a : Nat} : a ≤ a - 1 + 1 := Nat.sub_le_iff_le_add.1 (Nat.le_refl (a - 1))
theorem om83 {a : Nat} : 1 ≤ a → a - 1 + 1 ≤ a := fun h => Nat.le_of_eq (Nat.sub_add_cancel h)
theorem om84 {a b : Nat} : (↑a : Int) ≤ (↑b : Int) → b < a → (!true) = true := by lia
theorem om85 {a b : Nat} : a ≤ b → ¬a < b → a = b := by lia
theorem om86 {a : Nat} : a ≤ 1000 → a + 1 ≤ 16777216 := by lia
theorem om87 {a b : Nat} : a < b ∨ a = b ↔ a < b + 1 := Iff.symm Nat.lt_succ_iff_lt_or_eq
theorem om88 {a b : Nat} : b < a → a - 1 - b < a := fun h0 => Nat.sub_one_sub_lt_of_lt h0
theorem om89 {a b : Nat} : b < a → a - 1 - b + 1 = a - b := fun h => by rw [Nat.sub_right_comm]; exact Nat.sub_add_cancel (Nat.sub_pos_of_lt h)
theorem om90 {a b c : Nat} : a + 1 = b - c → a < b - c := by lia
theorem om91 {a : Nat} : a + 1 ≠ a := Ne.symm (Nat.ne_add_one a)
theorem om92 {a b c : Nat} : c + 1 = a - b → a - b ≤ c + 1 := fun h0 => Nat.le_of_eq (id (Eq.symm h0))
theorem om93 {a b c : Nat} : a + 1 = b - c → a + 1 ≤ b := fun h => h ▸ Nat.sub_le b c
theorem om94 {a b c d : Nat} : a - (b + 1) ≤ c → d + 1 = a - b → ¬c = d → a - b ≤ c := by lia
theorem om95 {a b c d : Nat} : a < c - (d + 1) → b + 1 = c - d → a ≠ b := by omega
theorem om96 {a b c : Nat} : a < b - (c + 1) → a < b - c := fun h0 => Nat.lt_of_lt_pred h0
theorem om97 {a b : Nat} : a - a ≤ b + 1 := by lia
theorem om98 {a b c d : Nat} : a ≤ 4 → b < d → d ≤ 1000 → a - 1 + min b c ≤ 16777216 := fun h k l => Nat.le_trans (Nat.add_le_add (Nat.le_trans (Nat.sub_le a 1) h) (Nat.le_trans (Nat.min_le_left b c) (Nat.le_trans (Nat.le_of_lt k) l))) (by decide)
theorem om99 {a b : Nat} : a < b - 0 → ¬a = b := fun h0 => Nat.ne_of_lt h0
theorem om100 {a b : Nat} : a < a + 1 + b := by lia
theorem om101 {a b : Nat} : a < b → ¬a = b := by lia
theorem om102 {a b : Nat} : a ≤ b → b - 0 ≤ a → a = b := fun h0 h1 => Nat.le_antisymm h0 h1
theorem om103 {a : Nat} : a - a ≤ 0 := by lia
theorem om104 {a b : Nat} : a ≤ b → b ≤ 8 → a ≤ 16777216 := by lia
theorem om105 {a b : Nat} : 1 ≤ b → a + 1 - b = a - (b - 1) := fun h0 => Eq.symm (Nat.sub_sub_right a h0)
theorem om106 {a b : Nat} : b - 1 ≤ a → a - (a - (b - 1)) = b - 1 := fun h0 => Nat.sub_sub_self h0
theorem om107 {a b c : Nat} : a - 1 ≤ b → a - 1 ≤ b + c := fun h0 => Nat.le_add_right_of_le h0
theorem om108 {a b c : Nat} : b < c → a + b < a + c := fun h0 => Nat.add_lt_add_left h0 a
theorem om109 {a b c : Nat} : a + 0 + (b + c) = a + b + c := Eq.symm (Nat.add_assoc a b c)
theorem om110 {a b c : Nat} : a + b + (c + 0) = a + c + b := Eq.symm (Nat.add_right_comm a c b)
theorem om111 {a b : Nat} : ¬a < b → ¬b = a → ¬a < b + 1 := by lia
theorem om112 {a b : Nat} : a + 0 + (b + 0) = a + b + 0 := by lia
theorem om113 {a b : Nat} : b < a → ¬a < b := fun h0 => Nat.not_lt_of_gt h0
theorem om114 {a b c : Nat} : c + a < c + b → a < b := fun h0 => Nat.lt_of_add_lt_add_left h0
theorem om115 {a b c : Nat} : a = c → c - b = 0 → a ≤ b := fun h k => h ▸ Nat.le_of_sub_eq_zero k
theorem om116 {a b c d : Nat} : a = c → d - b = 0 → d = c → a ≤ b := fun h k l => by subst h l; exact Nat.le_of_sub_eq_zero k
theorem om117 {a b : Nat} : a - b = 0 → a ≤ b := fun h => Nat.le_of_sub_eq_zero h
theorem om118 {a b c : Nat} : c - b = 0 → c = a → a ≤ b := fun h k => k ▸ Nat.le_of_sub_eq_zero h
theorem om119 {a b c d : Nat} : a = c → b = d → d = c → a ≤ b := by lia
theorem om120 {a b : Nat} : a + 1 ≤ b → b - (a + 1) = 0 → a + 1 = b := fun h k => Nat.le_antisymm h (Nat.le_of_sub_eq_zero k)
theorem om121 {a b c : Nat} : b - (a + 1) = c + 1 → a + 1 < b := fun h0 => Nat.lt_of_sub_eq_succ h0
theorem om122 {a b c : Nat} : a - (b + 1) = c + 1 → a - (b + 1 + 1) = c := fun h => congrArg Nat.pred h
theorem om123 {a : Nat} : ¬a + 1 < a := Nat.not_succ_lt_self
theorem om124 {a : Nat} : a ≤ 4 → a ≤ 16777216 := by lia
theorem om125 {a : Nat} : a ≤ 100 → a + 1 ≤ 16777216 := by lia
theorem om126 {a b c : Nat} : a ≤ 4 → b ≤ 4 * c → a + b ≤ 4 * (c + 1) := by lia
theorem om127 {a b c : Nat} : a ≤ 4 * c → c ≤ b → a ≤ b * 4 := by lia
theorem om128 {a : Nat} : a ≤ 3 → a = 0 ∨ a = 1 ∨ a = 2 ∨ a = 3 := by lia
theorem om129 {a : Nat} : a ≤ 3 → a ≤ 16777216 := by lia
theorem om130 {a b : Nat} : a < b → b ≤ 3 → a ≤ 3 := by lia
theorem om131 {a b : Nat} : a ≤ b → b ≤ 64 → a ≤ 16777216 := by lia
theorem om132 {a b c : Nat} : a = b → b < c → c ≤ 3 → a ≤ 100 := by lia
theorem om133 {a b c d e : Nat} : b ≤ 4 → c ≤ d → d ≤ 64 → a ≤ 4 * e → e ≤ c → a + b ≤ 16777216 := by lia
theorem om134 {a b c d : Nat} : a ≤ d → b ≤ c → a + b ≤ c + d := by lia
theorem om135 {a : Nat} : a ≤ 4 → a - 1 ≤ 3 := fun h0 => Nat.sub_le_of_le_add h0
theorem om136 {a b c d : Nat} : a ≤ c → c ≤ 4 * d → d ≤ 64 * b → a ≤ 64 * (b * 4) := fun h k l => Nat.le_trans h (Nat.le_trans k (by rw [← Nat.mul_assoc, Nat.mul_comm _ 4]; exact Nat.mul_le_mul_left 4 l))
theorem om137 {a : Nat} : a ≤ 6 → a ≤ 16777216 := by lia
theorem om138 {a b : Nat} : a < b → b ≤ 6 → a ≤ 6 := by lia
theorem om139 {a : Nat} : a ≤ 262144 → a ≤ 16777216 := by lia
theorem om140 {a b c d : Nat} : a = b - 1 + c → b ≤ 4 → c < d → d ≤ 6 → a + 1 ≤ 16777216 := fun e h k l => e ▸ Nat.le_trans (Nat.add_le_add_right (Nat.add_le_add (Nat.le_trans (Nat.sub_le b 1) h) (Nat.le_trans (Nat.le_of_lt k) l)) 1) (by decide)
theorem om141 {a b : Nat} : a + 1 - b ≤ a + 1 := Nat.sub_le (a + 1) b
theorem om142 {a b c : Nat} : a = b - 1 + c → a + 1 - (a + 1 - b) = b := fun h => Nat.sub_sub_self (by subst h; exact Nat.le_trans (Nat.sub_le_iff_le_add.1 (Nat.le_refl (b - 1))) (Nat.succ_le_succ (Nat.le_add_right _ _)))
theorem om143 {a b c : Nat} : a = b - (1 : Nat) + c → (↑(a + (1 : Nat) - b) : Int) = (↑(a + (1 : Nat)) : Int) - (↑b : Int) := by omega
theorem om144 {a b : Nat} : b ≤ 4 → a + 1 - (a + 1 - b) ≤ 1000 := by omega
theorem om145 {a b c d e : Nat} : c ≤ 4 → d ≤ 262144 → a ≤ 4 * d → e < c → b ≤ e → a + b ≤ 16777216 := by lia
theorem om146 {a b c : Nat} : b = c - 1 + a → a ≤ b := by lia
theorem om147 {a b c : Nat} : a = b - 1 + c → b ≤ 4 → c ≤ 6 → a ≤ 16777216 := fun e h k => e ▸ Nat.le_trans (Nat.add_le_add (Nat.le_trans (Nat.sub_le b 1) h) k) (by decide)
theorem om148 {a b c : Nat} : a = c - 1 + b → c ≤ 4 → a - b ≤ 1000 := fun e h => by rw [e, Nat.add_sub_cancel]; exact Nat.le_trans (Nat.sub_le c 1) (Nat.le_trans h (by decide))
theorem om149 {a : Nat} : a ≤ 1 → max (0 + 1) a ≤ 1 := by lia
theorem om150 {a : Nat} : a ≤ 1 → a + 1 ≤ 200 := by lia
theorem om151 {a : Nat} : a ≤ 6 → a ≤ 1000 := by lia
theorem om152 {a b c : Nat} : a = b - 1 + c → b ≤ 4 → c ≤ 6 → a ≤ 1000 := fun e h k => e ▸ Nat.le_trans (Nat.add_le_add (Nat.le_trans (Nat.sub_le b 1) h) k) (by decide)
theorem om153 {a b : Nat} : b < a → a ≠ b := by lia
theorem om154 {a : Nat} : a ≤ 900 → a ≤ 1000 := by lia
theorem om155 {a b : Nat} : a ≤ b → b ≤ 8 → a ≤ 1000 := by lia
theorem om156 {a b : Nat} : 1 ≤ b → a + b - 1 = b - 1 + a := fun h => by rw [Nat.add_sub_assoc h, Nat.add_comm]
theorem om157 {a : Nat} : ¬0 < a → a = 0 := fun h0 => Nat.eq_zero_of_not_pos h0
theorem om158 {a b c : Nat} : a = b - 1 + c → b ≤ 4 → c ≤ 900 → a ≤ 1000 := fun e h k => e ▸ Nat.le_trans (Nat.add_le_add (Nat.le_trans (Nat.sub_le b 1) h) k) (by decide)
theorem om159 {a b c : Nat} : b = a - 1 + c → a - 1 ≤ b := fun h0 => Nat.le.intro (id (Eq.symm h0))
theorem om160 {a b c : Nat} : (1 : Nat) ≤ c → a = c - (1 : Nat) + b → (↑a : Int) = (↑b : Int) + (↑c : Int) - (1 : Int) := fun h e => by rw [e, Nat.add_comm, ← Nat.add_sub_assoc h]; exact Int.ofNat_sub (Nat.le_trans h (Nat.le_add_left c b))
theorem om161 {a : Int} : a < (0 : Int) → ¬(0 : Int) ≤ a := fun h0 => Int.not_le.mpr h0
theorem om162 {b : Nat} {a : Int} : (↑b : Int) ≤ a → ¬a ≤ (↑b : Int) - (1 : Int) := by lia
theorem om163 {a : Nat} {b : Int} : (0 : Int) ≤ b → (↑a : Int) ≤ (↑a : Int) + b := fun h0 => Int.le_add_of_nonneg_right h0
theorem om164 {a b : Nat} : b ≤ 200 → min a b + 1 + (b - a) ≤ 1000 := fun h => Nat.le_trans (Nat.add_le_add (Nat.succ_le_succ (Nat.le_trans (Nat.min_le_right a b) h)) (Nat.le_trans (Nat.sub_le b a) h)) (by decide)
theorem om165 {a : Nat} : a ≤ 200 → a ≤ 1000 := by lia
theorem om166 {a : Nat} : (↑a : Int) + (1 : Int) ≠ (0 : Int) := Ne.symm (not_eq_of_beq_eq_false rfl)
theorem om167 {a b : Nat} : a < b + 1 → a ≤ b := by lia
theorem om168 {a b : Nat} : b ≤ 200 → min a b + 1 + (b - a) ≤ 16777216 := fun h => Nat.le_trans (Nat.add_le_add (Nat.succ_le_succ (Nat.le_trans (Nat.min_le_right a b) h)) (Nat.le_trans (Nat.sub_le b a) h)) (by decide)
theorem om169 {a b : Nat} : b ≤ 200 → min a b + 1 ≤ 16777216 := fun h => Nat.le_trans (Nat.succ_le_succ (Nat.le_trans (Nat.min_le_right a b) h)) (by decide)
theorem om170 {a : Nat} : 5 ≤ a → 3 < a := fun h0 => Nat.lt_of_add_left_lt h0
theorem om171 {a : Nat} : 5 ≤ a → 4 < a := by lia
theorem om172 {a : Nat} : a ≤ 6 → a ≤ 200 := by lia
theorem om173 {a : Nat} : a < 41 → a ≤ 1000 := by lia
theorem om174 {a b : Nat} : a = b → b < 41 → a ≤ 900 := by lia
theorem om175 {a : Nat} : a ≤ 4 → 1 * a ≤ 16777216 := by lia
theorem om176 {a b c : Nat} : a = c → b ≤ 4 → c < 41 → a + b ≤ 16777216 := by lia
theorem om177 {a b c : Nat} : a = b + c → b < 41 → c ≤ 4 → a ≤ 1000 := by lia
theorem om178 {a b c : Nat} : b = c + a → a - 1 ≤ b := fun h => h ▸ Nat.le_trans (Nat.sub_le a 1) (Nat.le_add_left a c)
theorem om179 {a b c : Nat} : a = c + b → c < 41 → a + 1 - b ≤ 900 := fun e h => by rw [e, Nat.add_right_comm, Nat.add_sub_cancel]; exact Nat.le_trans h (by decide)
theorem om180 {a : Nat} : (1 : Nat) ≤ a → (↑a : Int) ≠ (0 : Int) := fun h0 => Int.natCast_ne_zero_iff_pos.mpr h0
theorem om181 {a b : Nat} : a < b → b ≤ 7 → a ≤ 1000 := by lia
theorem om182 {a b c : Nat} : a < c → b ≤ 4 → c ≤ 7 → a + b - 1 ≤ 1000 := fun h k l => Nat.le_trans (Nat.sub_le _ 1) (Nat.le_trans (Nat.add_le_add (Nat.le_trans (Nat.le_of_lt h) l) k) (by decide))
theorem om183 {a b c : Nat} : a = b → b < c → c ≤ 7 → a ≤ 6 := by lia
theorem om184 {a b : Nat} : (1 : Nat) ≤ b → (↑(a + b - (1 : Nat)) : Int) = (↑a : Int) + (↑b : Int) - (1 : Int) := fun h => Int.ofNat_sub (Nat.le_trans h (Nat.le_add_left b a))
theorem om185 {a b c d : Nat} : a = b + c - 1 → b < d → c ≤ 4 → d ≤ 7 → a ≤ 1000 := fun e h k l => e ▸ Nat.le_trans (Nat.sub_le _ 1) (Nat.le_trans (Nat.add_le_add (Nat.le_trans (Nat.le_of_lt h) l) k) (by decide))
theorem om186 {a b c : Nat} : b = c + a - 1 → a - 1 ≤ b := fun h => h ▸ Nat.sub_le_sub_right (Nat.le_add_left a c) 1
theorem om187 {a b c d : Nat} : a = c + b - 1 → c < d → d ≤ 7 → a + 1 - b ≤ 6 := by omega
theorem c2p {α β γ δ ι κ : Type} {P : α → β → γ → δ → ι → κ → Prop} {Q : α → β → γ → δ → ι → κ → Prop} {G : Prop} (h : ∃ a, ∃ b, ∃ c, ∃ d, ∃ e, ∃ f, P a b c d e f ∧ Q a b c d e f) (k : ∀ a, ∀ b, ∀ c, ∀ d, ∀ e, ∀ f, P a b c d e f → Q a b c d e f → G) : G := let ⟨a, b, c, d, e, f, h1, h2⟩ := h; k a b c d e f h1 h2
theorem xEEA {α β : Type} {P : α → β → Prop} {Q : α → β → Prop} {G : Prop} (h : ∃ a, ∃ b, P a b ∧ Q a b) (k : ∀ a, ∀ b, P a b → Q a b → G) : G := let ⟨a, b, h1, h2⟩ := h; k a b h1 h2
theorem a1f {α β : Type} {P : α → β → Prop} {Q : α → β → Prop} {R : α → β → Prop} {G : Prop} (h : ∃ a, ∃ b, P a b ∧ Q a b ∧ R a b) (k : ∀ a, ∀ b, P a b → Q a b → R a b → G) : G := let ⟨a, b, h1, h2, h3⟩ := h; k a b h1 h2 h3
theorem xEA {α : Type} {P : α → Prop} {Q : α → Prop} {G : Prop} (h : ∃ a, P a ∧ Q a) (k : ∀ a, P a → Q a → G) : G := let ⟨a, h1, h2⟩ := h; k a h1 h2
theorem xEAA {α : Type} {P : α → Prop} {Q : α → Prop} {R : α → Prop} {G : Prop} (h : ∃ a, P a ∧ Q a ∧ R a) (k : ∀ a, P a → Q a → R a → G) : G := let ⟨a, h1, h2, h3⟩ := h; k a h1 h2 h3
theorem c2q {α β γ δ : Type} {P : α → β → γ → δ → Prop} {Q : α → β → γ → δ → Prop} {R : α → β → γ → δ → Prop} {S : α → β → γ → δ → Prop} {G : Prop} (h : ∃ a, ∃ b, ∃ c, ∃ d, P a b c d ∧ Q a b c d ∧ R a b c d ∧ S a b c d) (k : ∀ a, ∀ b, ∀ c, ∀ d, P a b c d → Q a b c d → R a b c d → S a b c d → G) : G := let ⟨a, b, c, d, h1, h2, h3, h4⟩ := h; k a b c d h1 h2 h3 h4
theorem b4b {α β γ δ ι : Type} {P : α → β → γ → δ → Prop} {Q : α → β → γ → δ → Prop} {R : α → β → γ → δ → Prop} {S : α → β → γ → δ → ι → Prop} {T : α → β → γ → δ → ι → Prop} {U : α → β → γ → δ → ι → Prop} {G : Prop} (h : ∃ a, ∃ b, ∃ c, ∃ d, P a b c d ∧ Q a b c d ∧ R a b c d ∧ ∃ e, S a b c d e ∧ T a b c d e ∧ U a b c d e) (k : ∀ a, ∀ b, ∀ c, ∀ d, P a b c d → Q a b c d → R a b c d → ∀ e, S a b c d e → T a b c d e → U a b c d e → G) : G := let ⟨a, b, c, d, h1, h2, h3, e, h4, h5, h6⟩ := h; k a b c d h1 h2 h3 e h4 h5 h6
theorem xA {P : Prop} {Q : Prop} {G : Prop} (h : P ∧ Q) (k : P → Q → G) : G := let ⟨h1, h2⟩ := h; k h1 h2
theorem xE {α : Type} {P : α → Prop} {G : Prop} (h : ∃ a, P a) (k : ∀ a, P a → G) : G := let ⟨a, h1⟩ := h; k a h1
theorem b1p {α β γ δ ι : Type} {P : α → β → γ → δ → ι → Prop} {Q : α → β → γ → δ → ι → Prop} {R : α → β → γ → δ → ι → Prop} {S : α → β → γ → δ → ι → Prop} {G : Prop} (h : ∃ a, ∃ b, ∃ c, ∃ d, ∃ e, P a b c d e ∧ Q a b c d e ∧ R a b c d e ∧ S a b c d e) (k : ∀ a, ∀ b, ∀ c, ∀ d, ∀ e, P a b c d e → Q a b c d e → R a b c d e → S a b c d e → G) : G := let ⟨a, b, c, d, e, h1, h2, h3, h4⟩ := h; k a b c d e h1 h2 h3 h4
theorem c5u {α : Type} {P : α → Prop} {Q : α → Prop} {R : α → Prop} {S : α → Prop} {T : α → Prop} {G : Prop} (h : ∃ a, P a ∧ Q a ∧ R a ∧ S a ∧ T a) (k : ∀ a, P a → Q a → R a → S a → T a → G) : G := let ⟨a, h1, h2, h3, h4, h5⟩ := h; k a h1 h2 h3 h4 h5
theorem xAA {P : Prop} {Q : Prop} {R : Prop} {G : Prop} (h : P ∧ Q ∧ R) (k : P → Q → R → G) : G := let ⟨h1, h2, h3⟩ := h; k h1 h2 h3
theorem a4a {α β : Type} {P : α → β → Prop} {Q : α → β → Prop} {R : α → β → Prop} {S : α → β → Prop} {G : Prop} (h : ∃ a, ∃ b, P a b ∧ Q a b ∧ R a b ∧ S a b) (k : ∀ a, ∀ b, P a b → Q a b → R a b → S a b → G) : G := let ⟨a, b, h1, h2, h3, h4⟩ := h; k a b h1 h2 h3 h4
theorem c5v {α β γ δ : Type} {P : α → β → γ → δ → Prop} {Q : α → β → γ → δ → Prop} {G : Prop} (h : ∃ a, ∃ b, ∃ c, ∃ d, P a b c d ∧ Q a b c d) (k : ∀ a, ∀ b, ∀ c, ∀ d, P a b c d → Q a b c d → G) : G := let ⟨a, b, c, d, h1, h2⟩ := h; k a b c d h1 h2
theorem b1q {α : Type} {P : α → Prop} {Q : α → Prop} {R : α → Prop} {S : α → Prop} {G : Prop} (h : ∃ a, P a ∧ Q a ∧ R a ∧ S a) (k : ∀ a, P a → Q a → R a → S a → G) : G := let ⟨a, h1, h2, h3, h4⟩ := h; k a h1 h2 h3 h4
theorem xAEA {α : Type} {P : Prop} {Q : α → Prop} {R : α → Prop} {G : Prop} (h : P ∧ ∃ a, Q a ∧ R a) (k : P → ∀ a, Q a → R a → G) : G := let ⟨h1, a, h2, h3⟩ := h; k h1 a h2 h3
theorem xEE {α β : Type} {P : α → β → Prop} {G : Prop} (h : ∃ a, ∃ b, P a b) (k : ∀ a, ∀ b, P a b → G) : G := let ⟨a, b, h1⟩ := h; k a b h1
theorem a3q {α β γ : Type} {P : α → β → γ → Prop} {Q : α → β → γ → Prop} {G : Prop} (h : ∃ a, ∃ b, ∃ c, P a b c ∧ Q a b c) (k : ∀ a, ∀ b, ∀ c, P a b c → Q a b c → G) : G := let ⟨a, b, c, h1, h2⟩ := h; k a b c h1 h2
theorem a7c {α β γ δ ι κ μ ν ξ ο π : Type} {P : α → β → γ → δ → ι → κ → μ → ν → ξ → ο → π → Prop} {G : Prop} (h : ∃ a, ∃ b, ∃ c, ∃ d, ∃ e, ∃ f, ∃ g, ∃ i, ∃ j, ∃ l, ∃ m, P a b c d e f g i j l m) (k : ∀ a, ∀ b, ∀ c, ∀ d, ∀ e, ∀ f, ∀ g, ∀ i, ∀ j, ∀ l, ∀ m, P a b c d e f g i j l m → G) : G := let ⟨a, b, c, d, e, f, g, i, j, l, m, h1⟩ := h; k a b c d e f g i j l m h1
theorem c2r {α β γ : Type} {P : α → β → γ → Prop} {Q : α → β → γ → Prop} {R : α → β → γ → Prop} {S : α → β → γ → Prop} {T : α → β → γ → Prop} {G : Prop} (h : ∃ a, ∃ b, ∃ c, P a b c ∧ Q a b c ∧ R a b c ∧ S a b c ∧ T a b c) (k : ∀ a, ∀ b, ∀ c, P a b c → Q a b c → R a b c → S a b c → T a b c → G) : G := let ⟨a, b, c, h1, h2, h3, h4, h5⟩ := h; k a b c h1 h2 h3 h4 h5
theorem a6q {α β γ δ : Type} {P : α → β → γ → Prop} {Q : α → β → γ → Prop} {R : α → β → γ → Prop} {S : α → β → γ → Prop} {T : α → β → γ → Prop} {U : α → β → γ → δ → Prop} {G : Prop} (h : ∃ a, ∃ b, ∃ c, P a b c ∧ Q a b c ∧ R a b c ∧ S a b c ∧ T a b c ∧ ∃ d, U a b c d) (k : ∀ a, ∀ b, ∀ c, P a b c → Q a b c → R a b c → S a b c → T a b c → ∀ d, U a b c d → G) : G := let ⟨a, b, c, h1, h2, h3, h4, h5, d, h6⟩ := h; k a b c h1 h2 h3 h4 h5 d h6
theorem b8e {α β : Type} {P : α → β → Prop} {Q : α → β → Prop} {R : α → β → Prop} {S : α → β → Prop} {T : α → β → Prop} {U : α → β → Prop} {V : α → β → Prop} {G : Prop} (h : ∃ a, ∃ b, P a b ∧ Q a b ∧ R a b ∧ S a b ∧ T a b ∧ U a b ∧ V a b) (k : ∀ a, ∀ b, P a b → Q a b → R a b → S a b → T a b → U a b → V a b → G) : G := let ⟨a, b, h1, h2, h3, h4, h5, h6, h7⟩ := h; k a b h1 h2 h3 h4 h5 h6 h7
theorem b1r {α β γ δ : Type} {P : α → β → γ → δ → Prop} {Q : α → β → γ → δ → Prop} {R : α → β → γ → δ → Prop} {S : α → β → γ → δ → Prop} {T : α → β → γ → δ → Prop} {G : Prop} (h : ∃ a, ∃ b, ∃ c, ∃ d, P a b c d ∧ Q a b c d ∧ R a b c d ∧ S a b c d ∧ T a b c d) (k : ∀ a, ∀ b, ∀ c, ∀ d, P a b c d → Q a b c d → R a b c d → S a b c d → T a b c d → G) : G := let ⟨a, b, c, d, h1, h2, h3, h4, h5⟩ := h; k a b c d h1 h2 h3 h4 h5
theorem xAAA {P : Prop} {Q : Prop} {R : Prop} {S : Prop} {G : Prop} (h : P ∧ Q ∧ R ∧ S) (k : P → Q → R → S → G) : G := let ⟨h1, h2, h3, h4⟩ := h; k h1 h2 h3 h4
inductive D where
  | none
  | bool (b : Bool)
  | int (i : Int)
  | str (s : Str)
  | tup (l : List D)
  | lst (l : List D)
  | dI (l : List (Int × D))
  | dT (l : List (List Int × D))
  | fn (f : String)
inductive V where
  | d (x : D)
  | a (x : D)
  | r (i : Nat)
  | t (l : List V)
inductive O where
  | lst (l : List D)
  | dI (l : List (Int × D))
  | dT (l : List (List Int × D))
  | lstV (l : List V)
  | dead
set_option genCtorIdx false in
inductive CE where
  | int (i : Int)
  | bool (b : Bool)
  | none
  | str (s : String)
  | var (i : Nat)
  | gv (x : String)
  | bin (op : Operator) (a b : CE)
  | neg (a : CE)
  | not (a : CE)
  | and (l : List CE)
  | or (l : List CE)
  | cmp (op : CmpOp) (a b : CE)
  | cmp2 (op₁ op₂ : CmpOp) (a b c : CE)
  | ite (c a b : CE)
  | tup (l : List CE)
  | lst (l : List CE)
  | dct0
  | dct1 (k v : CE)
  | sub (a i : CE)
  | slice (a : CE) (lo hi : Option CE)
  | call (f : String) (l : List CE)
  | callv (i : Nat) (l : List CE)
  | prim (f : String) (l : List CE)
  | isi (a : CE) (c : String)
  | meth (a : CE) (m : String) (l : List CE)
  | comp (elt : CE) (k : Nat) (one : Bool) (iter : CE) (cond : Option CE)
  | lam (i : Nat) (body : CE)
set_option genCtorIdx false in
inductive CS where
  | asg (i : Nat) (e : CE)
  | asgT (l : List Nat) (e : CE)
  | asgS (a i e : CE)
  | ex (e : CE)
  | ite (c : CE) (s t : List CS)
  | for1 (i : Nat) (e : CE) (b : List CS)
  | forT (l : List Nat) (e : CE) (b : List CS)
  | while (c : CE) (b : List CS)
  | ret (e : CE)
  | raise (c m : String)
  | tryx (b : List CS) (c : String) (i : Nat) (h : List CS)
noncomputable def vis : List Str -> Str -> Option Nat
  | [], _ => none
  | y :: ys, x => match vis ys x with
    | some i => some (i + 1)
    | none => if x == y then some 0 else none
noncomputable def b1s : Option NameKind -> Bool
  | some .local | some .cell | some .free => true
  | _ => false
noncomputable def b7j (names : List Str) (sc : Scope) (i : Nat) (x : Str) : Bool :=
  b1s (sc.names.lookup x) && vis names x == some i && !(x == ("__debug__" : Str)) && !(x == ("__classdict__" : Str))
noncomputable def a1h (names : List Str) (sc : Scope) (i : Nat) (x : Str) : Bool :=
  (sc.names.lookup x == some .local || sc.names.lookup x == some .cell) && vis names x == some i
noncomputable def a1e (sc : Scope) (f : String) (x : Str) : Bool := x == Str.ofString f && sc.names.lookup x == some .globalImplicit && !(x == ("__debug__" : Str))
noncomputable def a0d : List Expr -> List Str
  | [] => []
  | .Name x _ :: es => x :: a0d es
  | _ :: es => a0d es
noncomputable def a2b (sc : Scope) : Bool := sc.kind == .function && !sc.isGenerator && !sc.isCoroutine
noncomputable def a5n (E : Expr) (f : Const -> Nat -> Pos -> Bool) : Bool := if h : E.ctorIdx = 19 then @Expr.Constant.elim (fun ζ => Bool) E h f else false
noncomputable def a2v (E : Expr) (f : Str -> Pos -> Bool) : Bool := if h : E.ctorIdx = 23 then @Expr.Name.elim (fun ζ => Bool) E h f else false
noncomputable def c2s (E : Expr) (f : Expr -> Operator -> Expr -> Pos -> Bool) : Bool := if h : E.ctorIdx = 2 then @Expr.BinOp.elim (fun ζ => Bool) E h f else false
noncomputable def onUn (E : Expr) (f : UnaryOp -> Expr -> Pos -> Bool) : Bool := if h : E.ctorIdx = 3 then @Expr.UnaryOp.elim (fun ζ => Bool) E h f else false
noncomputable def b5m (E : Expr) (f : BoolOp -> List Expr -> Pos -> Bool) : Bool := if h : E.ctorIdx = 0 then @Expr.BoolOp.elim (fun ζ => Bool) E h f else false
noncomputable def a5t (E : Expr) (f : Expr -> List CmpOp -> List Expr -> Pos -> Bool) : Bool := if h : E.ctorIdx = 15 then @Expr.Compare.elim (fun ζ => Bool) E h f else false
noncomputable def b0h (E : Expr) (f : Expr -> Expr -> Expr -> Pos -> Bool) : Bool := if h : E.ctorIdx = 5 then @Expr.IfExp.elim (fun ζ => Bool) E h f else false
noncomputable def a4b (E : Expr) (f : List Expr -> Nat -> Pos -> Bool) : Bool := if h : E.ctorIdx = 25 then @Expr.Tuple.elim (fun ζ => Bool) E h f else false
noncomputable def b5n (E : Expr) (f : List Expr -> Pos -> Bool) : Bool := if h : E.ctorIdx = 24 then @Expr.List.elim (fun ζ => Bool) E h f else false
noncomputable def b5o (E : Expr) (f : List (Option Expr) -> List Expr -> Pos -> Bool) : Bool := if h : E.ctorIdx = 6 then @Expr.Dict.elim (fun ζ => Bool) E h f else false
noncomputable def b7k (E : Expr) (f : Expr -> Expr -> Pos -> Bool) : Bool := if h : E.ctorIdx = 21 then @Expr.Subscript.elim (fun ζ => Bool) E h f else false
noncomputable def b8f (E : Expr) (f : Option Expr -> Option Expr -> Option Expr -> Pos -> Bool) : Bool := if h : E.ctorIdx = 26 then @Expr.Slice.elim (fun ζ => Bool) E h f else false
noncomputable def a9i (E : Expr) (f : Expr -> List Expr -> List Keyword -> Pos -> Bool) : Bool := if h : E.ctorIdx = 16 then @Expr.Call.elim (fun ζ => Bool) E h f else false
noncomputable def c5w (E : Expr) (f : Expr -> Str -> Pos -> Bool) : Bool := if h : E.ctorIdx = 20 then @Expr.Attribute.elim (fun ζ => Bool) E h f else false
noncomputable def b8g (E : Expr) (f : Expr -> List Comprehension -> Scope -> Pos -> Bool) : Bool := if h : E.ctorIdx = 8 then @Expr.ListComp.elim (fun ζ => Bool) E h f else false
noncomputable def a7q (E : Stmt) (f : List Expr -> Expr -> Pos -> Bool) : Bool := if h : E.ctorIdx = 5 then @Stmt.Assign.elim (fun ζ => Bool) E h f else false
noncomputable def b8h (E : Stmt) (f : Expr -> Pos -> Bool) : Bool := if h : E.ctorIdx = 24 then @Stmt.Expr.elim (fun ζ => Bool) E h f else false
noncomputable def onIf (E : Stmt) (f : Expr -> List Stmt -> List Stmt -> Pos -> Bool) : Bool := if h : E.ctorIdx = 12 then @Stmt.If.elim (fun ζ => Bool) E h f else false
noncomputable def c6x (E : Stmt) (f : Expr -> Expr -> List Stmt -> List Stmt -> Pos -> Bool) : Bool := if h : E.ctorIdx = 9 then @Stmt.For.elim (fun ζ => Bool) E h f else false
noncomputable def c6y (E : Stmt) (f : Expr -> List Stmt -> List Stmt -> Pos -> Bool) : Bool := if h : E.ctorIdx = 11 then @Stmt.While.elim (fun ζ => Bool) E h f else false
noncomputable def onRet (E : Stmt) (f : Option Expr -> Pos -> Bool) : Bool := if h : E.ctorIdx = 3 then @Stmt.Return.elim (fun ζ => Bool) E h f else false
noncomputable def onRaise (E : Stmt) (f : Option Expr -> Option Expr -> Pos -> Bool) : Bool := if h : E.ctorIdx = 16 then @Stmt.Raise.elim (fun ζ => Bool) E h f else false
noncomputable def onTry (E : Stmt) (f : List Stmt -> List ExceptHandler -> List Stmt -> List Stmt -> Pos -> Bool) : Bool := if h : E.ctorIdx = 17 then @Stmt.Try.elim (fun ζ => Bool) E h f else false
noncomputable def onCI (E : Const) (f : Int -> Bool) : Bool := if h : E.ctorIdx = 2 then @Const.int.elim (fun ζ => Bool) E h f else false
noncomputable def onCB (E : Const) (f : Bool -> Bool) : Bool := if h : E.ctorIdx = 1 then @Const.bool.elim (fun ζ => Bool) E h f else false
noncomputable def onCS (E : Const) (f : Str -> Bool) : Bool := if h : E.ctorIdx = 5 then @Const.str.elim (fun ζ => Bool) E h f else false
noncomputable def a2c {α : Type} (l : List α) (b : Bool) : Bool := match l with | [] => b | _ => false
noncomputable def a1q {α : Type} (l : List α) (f : α -> List α -> Bool) : Bool := match l with | a :: l => f a l | _ => false
noncomputable def a0v (names : List Str) (sc : Scope) : List Nat -> List Expr -> Bool
  | [], E => a2c E true
  | i :: is, E => a1q E fun t ts => a2v t fun x p => a1h names sc i x && a0v names sc is ts
noncomputable def b8i {α : Type} (l : Option α) (b : Bool) : Bool := match l with | none => b | _ => false
noncomputable def a9j {α : Type} (l : Option α) (f : α -> Bool) : Bool := match l with | some a => f a | _ => false
noncomputable def onCN (c : Const) (b : Bool) : Bool := match c with | .none => b | _ => false
noncomputable def onUS (o : UnaryOp) (b : Bool) : Bool := match o with | .USub => b | _ => false
noncomputable def onUN (o : UnaryOp) (b : Bool) : Bool := match o with | .Not => b | _ => false
noncomputable def onBA (o : BoolOp) (b : Bool) : Bool := match o with | .And => b | _ => false
noncomputable def onBO (o : BoolOp) (b : Bool) : Bool := match o with | .Or => b | _ => false
noncomputable def pInt (E : Expr) (f : Int -> Nat -> Pos -> Bool) : Bool := a5n E fun c k p => onCI c fun j => f j k p
noncomputable def pBool (E : Expr) (f : Bool -> Nat -> Pos -> Bool) : Bool := a5n E fun c k p => onCB c fun j => f j k p
noncomputable def pStr (E : Expr) (f : Str -> Nat -> Pos -> Bool) : Bool := a5n E fun c k p => onCS c fun j => f j k p
noncomputable def pNone (E : Expr) (f : Nat -> Pos -> Bool) : Bool := a5n E fun c k p => onCN c (f k p)
noncomputable def pNeg (E : Expr) (f : Expr -> Pos -> Bool) : Bool := onUn E fun o x p => onUS o (f x p)
noncomputable def pNot (E : Expr) (f : Expr -> Pos -> Bool) : Bool := onUn E fun o x p => onUN o (f x p)
noncomputable def pAnd (E : Expr) (f : List Expr -> Pos -> Bool) : Bool := b5m E fun o vs p => onBA o (f vs p)
noncomputable def pOr (E : Expr) (f : List Expr -> Pos -> Bool) : Bool := b5m E fun o vs p => onBO o (f vs p)
noncomputable def pCmp (E : Expr) (f : Expr -> CmpOp -> Expr -> Pos -> Bool) : Bool := a5t E fun l os rs p => a1q os fun o os => a2c os (a1q rs fun r rs => a2c rs (f l o r p))
noncomputable def pCmp2 (E : Expr) (f : Expr -> CmpOp -> CmpOp -> Expr -> Expr -> Pos -> Bool) : Bool := a5t E fun l os rs p => a1q os fun o os => a1q os fun o' os => a2c os (a1q rs fun r rs => a1q rs fun r' rs => a2c rs (f l o o' r r' p))
noncomputable def pDct0 (E : Expr) (f : Pos -> Bool) : Bool := b5o E fun ks vs p => a2c ks (a2c vs (f p))
noncomputable def pDct1 (E : Expr) (f : Expr -> Expr -> Pos -> Bool) : Bool := b5o E fun ks vs p => a1q ks fun a ks => a9j a fun a => a2c ks (a1q vs fun b vs => a2c vs (f a b p))
noncomputable def c5x (E : Expr) (f : Expr -> Option Expr -> Option Expr -> Pos -> Pos -> Bool) : Bool := b7k E fun v s p => b8f s fun l u st sp => b8i st (f v l u sp p)
noncomputable def c2t (E : Expr) (f : Str -> Pos -> List Expr -> Pos -> Bool) : Bool := a9i E fun fn args kw pos => a2v fn fun x px => a2c kw (f x px args pos)
noncomputable def pIsi (E : Expr) (f : Str -> Pos -> Expr -> Str -> Pos -> Pos -> Bool) : Bool := a9i E fun fn args kw pos => a2v fn fun x px => a1q args fun v args => a1q args fun w args => a2v w fun y py => a2c args (a2c kw (f x px v y py pos))
noncomputable def pMeth (E : Expr) (f : Expr -> Str -> Pos -> List Expr -> Pos -> Bool) : Bool := a9i E fun fn args kw pos => c5w fn fun o n ap => a2c kw (f o n ap args pos)
noncomputable def pAsg (E : Stmt) (f : Str -> Pos -> Expr -> Pos -> Bool) : Bool := a7q E fun ts v pos => a1q ts fun t tr => a2v t fun x px => a2c tr (f x px v pos)
noncomputable def pAsgT (E : Stmt) (f : List Expr -> Nat -> Pos -> Expr -> Pos -> Bool) : Bool := a7q E fun tts v pos => a1q tts fun t tr => a4b t fun ts k p => a2c tr (f ts k p v pos)
noncomputable def pAsgS (E : Stmt) (f : Expr -> Expr -> Pos -> Expr -> Pos -> Bool) : Bool := a7q E fun tts v pos => a1q tts fun t tr => b7k t fun o k p => a2c tr (f o k p v pos)
noncomputable def pRet (E : Stmt) (f : Expr -> Pos -> Bool) : Bool := onRet E fun v pos => a9j v fun v => f v pos
noncomputable def pWhile (E : Stmt) (f : Expr -> List Stmt -> Pos -> Bool) : Bool := c6y E fun e bd o pos => a2c o (f e bd pos)
noncomputable def pFor1 (E : Stmt) (f : Str -> Pos -> Expr -> List Stmt -> Pos -> Bool) : Bool := c6x E fun t it bd o pos => a2v t fun x px => a2c o (f x px it bd pos)
noncomputable def pForT (E : Stmt) (f : List Expr -> Nat -> Pos -> Expr -> List Stmt -> Pos -> Bool) : Bool := c6x E fun t it bd o pos => a4b t fun ts k p => a2c o (f ts k p it bd pos)
noncomputable def c5y (E : Stmt) (f : Str -> Pos -> Str -> Nat -> Pos -> Pos -> Pos -> Bool) : Bool := onRaise E fun e ca pos => a9j e fun e => a9i e fun fn args kw cp => a2v fn fun x px => a1q args fun v vs => a5n v fun k a b => onCS k fun t => a2c vs (a2c kw (b8i ca (f x px t a b cp pos)))
noncomputable def pLC (E : Expr) (f : Expr -> Expr -> Expr -> List Expr -> Scope -> Pos -> Bool) : Bool := b8g E fun el gs csc pos => a1q gs fun g gs => a2c gs (match g with | ⟨tg, it, ifs, n⟩ => (n == 0) && f el tg it ifs csc pos)
noncomputable def pTry (E : Stmt) (f : List Stmt -> Str -> Pos -> Str -> List Stmt -> Pos -> Pos -> Bool) : Bool := onTry E fun bd hs oe fe pos => a1q hs fun h hs => a2c hs (a2c oe (a2c fe (match h with | .ExceptHandler ty nm hb hp => a9j ty fun ty => a2v ty fun x px => a9j nm fun n => f bd x px n hb hp pos)))
set_option tactic.hygienic true in
mutual
noncomputable def isE (names : List Str) (sc : Scope) : CE -> Expr -> Bool
  | .int i, E => pInt E fun j k p => i == j
  | .bool i, E => pBool E fun j k p => i == j
  | .none, E => pNone E fun k p => true
  | .str i, E => pStr E fun j k p => j == Str.ofString i
  | .var i, E => a2v E fun x p => b7j names sc i x
  | .gv f, E => a2v E fun x p => a1e sc f x
  | .bin op a b, E => c2s E fun l o r p => op == o && isE names sc a l && isE names sc b r
  | .neg a, E => pNeg E fun x p => isE names sc a x
  | .not a, E => pNot E fun x p => isE names sc a x
  | .and l, E => pAnd E fun vs p => isEs names sc l vs
  | .or l, E => pOr E fun vs p => isEs names sc l vs
  | .cmp op a b, E => pCmp E fun l o r p => op == o && isE names sc a l && isE names sc b r && !behindInMarks o r
  | .cmp2 op₁ op₂ a b c, E => pCmp2 E fun l o o' r r' p => op₁ == o && op₂ == o' && isE names sc a l && isE names sc b r && isE names sc c r' && !behindInMarks o r && !behindInMarks o' r'
  | .ite c a b, E => b0h E fun t x y p => isE names sc c t && isE names sc a x && isE names sc b y
  | .tup l, E => a4b E fun vs k p => isEs names sc l vs
  | .lst l, E => b5n E fun vs p => isEs names sc l vs
  | .dct0, E => pDct0 E fun p => true
  | .dct1 k v, E => pDct1 E fun a b p => isE names sc k a && isE names sc v b
  | .sub a i, E => b7k E fun v s p => isE names sc a v && isE names sc i s
  | .slice a lo hi, E => c5x E fun v l u sp p => isE names sc a v && isEo names sc lo l && isEo names sc hi u
  | .call f l, E => c2t E fun x px args pos => a1e sc f x && isEs names sc l args && decide (l.length < 15)
  | .callv i l, E => c2t E fun x px args pos => b7j names sc i x && isEs names sc l args && decide (l.length < 15)
  | .prim f l, E => c2t E fun x px args pos => a1e sc f x && isEs names sc l args && decide (l.length < 15)
  | .isi a c, E => pIsi E fun x px v y py pos => a1e sc "isinstance" x && isE names sc a v && a1e sc c y
  | .meth a m l, E => pMeth E fun o n ap args pos => isE names sc a o && n == Str.ofString m && isEs names sc l args && decide (l.length < 15) && ap.endLine == pos.line
  | .comp elt k one iter cond, E => pLC E fun el tg it ifs csc pos => a2b csc && isE names sc iter it && (csc.names.all fun y => y.2 != .cell && (y.2 != .local || csc.names.lookup y.1 == some .local)) &&
      (match one with
        | true => a2v tg fun x p => k == 1 && csc.names.lookup x == some .local && isE (names ++ [x]) csc elt el && isEc (names ++ [x]) csc cond ifs
        | false => a4b tg fun ts a b => ts.length == k && (a0d ts).length == k && (a0d ts).all (fun x => csc.names.lookup x == some .local) && decide (a0d ts).Nodup && isE (names ++ a0d ts) csc elt el && isEc (names ++ a0d ts) csc cond ifs) &&
      (csc.names.all fun y => (y.2 != .free || (sc.names.lookup y.1 == some .cell || sc.names.lookup y.1 == some .free)) &&
        (y.2 != .local || (match tg with | .Name x _ => [x] | .Tuple ts _ _ => a0d ts | _ => []).contains y.1 || !names.contains y.1))
  | .lam i body, E => false
noncomputable def isEs (names : List Str) (sc : Scope) : List CE -> List Expr -> Bool
  | [], E => match E with
    | [] => true
    | _ => false
  | e :: es, E => match E with
    | x :: xs => isE names sc e x && isEs names sc es xs
    | _ => false
noncomputable def isEo (names : List Str) (sc : Scope) : Option CE -> Option Expr -> Bool
  | none, E => match E with
    | none => true
    | _ => false
  | some e, E => match E with
    | some x => isE names sc e x
    | _ => false
noncomputable def isEc (names : List Str) (sc : Scope) : Option CE -> List Expr -> Bool
  | none, E => match E with
    | [] => true
    | _ => false
  | some e, E => match E with
    | [x] => isE names sc e x
    | _ => false
end
set_option tactic.hygienic true in
mutual
noncomputable def isS (names : List Str) (sc : Scope) : CS -> Stmt -> Bool
  | .asg i e, S => pAsg S fun x px v pos => a1h names sc i x && isE names sc e v
  | .asgT l e, S => pAsgT S fun ts k p v pos => a0v names sc l ts && isE names sc e v && decide (l.Nodup)
  | .asgS a i e, S => pAsgS S fun o k p v pos => isE names sc a o && isE names sc i k && isE names sc e v
  | .ex e, S => b8h S fun v pos => isE names sc e v
  | .ite c s t, S => onIf S fun e b o pos => isE names sc c e && isSs names sc s b && isSs names sc t o
  | .for1 i e b, S => pFor1 S fun x px it bd pos => a1h names sc i x && isE names sc e it && isSs names sc b bd
  | .forT l e b, S => pForT S fun ts k p it bd pos => a0v names sc l ts && isE names sc e it && isSs names sc b bd && decide (l.Nodup)
  | .while c b, S => pWhile S fun e bd pos => isE names sc c e && isSs names sc b bd
  | .ret e, S => pRet S fun v pos => isE names sc e v
  | .raise c m, S => c5y S fun x px t a b cp pos => a1e sc c x && t == Str.ofString m
  | .tryx b c i h, S => pTry S fun bd x px n hb hp pos => isSs names sc b bd && a1e sc c x && (a1h names sc i n && sc.names.lookup n == some .local) && isSs names sc h hb
noncomputable def isSs (names : List Str) (sc : Scope) : List CS -> List Stmt -> Bool
  | [], S => match S with
    | [] => true
    | _ => false
  | s :: ss, S => match S with
    | x :: xs => isS names sc s x && isSs names sc ss xs
    | _ => false
end
structure CF where
  nparams : Nat
  nvars : Nat
  body : List CS
noncomputable def isF (cf : CF) (d : DefRec) : Bool :=
  a2b d.scope && d.params.posonlyargs.isEmpty && d.params.vararg.isNone && d.params.kwonlyargs.isEmpty && d.params.kwarg.isNone && d.params.defaults.isEmpty && d.params.kw_defaults.isEmpty &&
  (let names := (d.scope.names.filter fun y => y.2 == .local || y.2 == .cell).map (·.1)
   d.params.args.length == cf.nparams && names.length == cf.nvars && decide (d.params.args.map (·.arg) = names.take cf.nparams) && decide names.Nodup &&
   (d.scope.names.all fun y => y.2 != .free && d.scope.names.lookup y.1 == some y.2) && isSs names d.scope cf.body d.body)
noncomputable def bltNames : List String := ["len", "range", "isinstance", "int", "bool", "str", "tuple", "list", "dict", "set", "sorted", "sum", "min", "all", "ValueError"]
end Mine
end
section
open PySem PyProof.Rows
namespace Mine
noncomputable def F_is_among : CF := ⟨3, 3, [.ret (.and [(.isi (.var 0) "int"), (.not (.isi (.var 0) "bool")), (.cmp2 .LtE .LtE (.var 1) (.var 0) (.var 2))])]⟩
noncomputable def F_rows_of : CF := ⟨2, 4, [.asg 2 (.int 1), .for1 3 (.prim "range" [(.var 1)]) [.asg 2 (.bin .Mult (.var 2) (.var 0))], .ret (.var 2)]⟩
noncomputable def F_number_of : CF := ⟨2, 4, [.asg 2 (.int 0), .for1 3 (.var 1) [.asg 2 (.bin .Add (.bin .Mult (.var 2) (.var 0)) (.var 3))], .ret (.var 2)]⟩
noncomputable def F_is_rule : CF := ⟨1, 2, [.ite (.or [(.not (.isi (.var 0) "tuple")), (.cmp .NotEq (.prim "len" [(.var 0)]) (.int 3))]) [.ret (.bool false)] [], .ite (.or [(.not (.call "is_among" [(.sub (.var 0) (.int 0)), (.int 2), (.gv "MOST_SIGNS")])), (.not (.call "is_among" [(.sub (.var 0) (.int 1)), (.int 1), (.gv "MOST_WIDE")]))]) [.ret (.bool false)] [], .asg 1 (.call "rows_of" [(.sub (.var 0) (.int 0)), (.sub (.var 0) (.int 1))]), .ite (.or [(.cmp .Gt (.var 1) (.gv "MOST_ROWS")), (.not (.isi (.sub (.var 0) (.int 2)) "tuple")), (.cmp .NotEq (.prim "len" [(.sub (.var 0) (.int 2))]) (.var 1))]) [.ret (.bool false)] [], .ret (.prim "all" [(.comp (.call "is_among" [(.var 2), (.int 0), (.bin .Sub (.sub (.var 0) (.int 0)) (.int 1))]) 1 true (.sub (.var 0) (.int 2)) none)])]⟩
noncomputable def F_need_rule : CF := ⟨1, 1, [.ite (.not (.call "is_rule" [(.var 0)])) [.raise "BadRule" "no rule"] []]⟩
noncomputable def F_is_piece : CF := ⟨2, 2, [.ex (.call "need_rule" [(.var 0)]), .ret (.and [(.isi (.var 1) "list"), (.prim "all" [(.comp (.call "is_among" [(.var 2), (.int 0), (.bin .Sub (.sub (.var 0) (.int 0)) (.int 1))]) 1 true (.var 1) none)])])]⟩
noncomputable def F_need_piece : CF := ⟨3, 3, [.ite (.or [(.not (.call "is_piece" [(.var 0), (.var 1)])), (.cmp .Lt (.prim "len" [(.var 1)]) (.var 2))]) [.raise "BadRow" "no piece of the rule's signs, or of too few cells"] []]⟩
noncomputable def F_sign_of : CF := ⟨2, 2, [.ret (.sub (.sub (.var 0) (.int 2)) (.call "number_of" [(.sub (.var 0) (.int 0)), (.var 1)]))]⟩
noncomputable def F_piece_on : CF := ⟨2, 2, [.ex (.call "need_rule" [(.var 0)]), .ex (.call "need_piece" [(.var 0), (.var 1), (.bin .Sub (.sub (.var 0) (.int 1)) (.int 1))]), .ret (.comp (.call "sign_of" [(.var 0), (.slice (.var 1) (some (.var 2)) (some (.bin .Add (.var 2) (.sub (.var 0) (.int 1)))))]) 1 true (.prim "range" [(.bin .Add (.bin .Sub (.prim "len" [(.var 1)]) (.sub (.var 0) (.int 1))) (.int 1))]) none)]⟩
noncomputable def F_many_ends : CF := ⟨1, 1, [.ret (.call "rows_of" [(.sub (.var 0) (.int 0)), (.bin .Sub (.sub (.var 0) (.int 1)) (.int 1))])]⟩
noncomputable def F_told_by : CF := ⟨3, 3, [.ret (.sub (.sub (.var 0) (.int 2)) (.bin .Add (.bin .Mult (.var 1) (.sub (.var 0) (.int 0))) (.var 2)))]⟩
noncomputable def F_onward : CF := ⟨3, 3, [.ret (.bin .Mod (.bin .Add (.bin .Mult (.var 1) (.sub (.var 0) (.int 0))) (.var 2)) (.call "many_ends" [(.var 0)]))]⟩
noncomputable def F_ends_behind : CF := ⟨3, 6, [.asg 3 .dct0, .for1 4 (.var 1) [.for1 5 (.prim "range" [(.sub (.var 0) (.int 0))]) [.ite (.cmp .Eq (.call "told_by" [(.var 0), (.var 4), (.var 5)]) (.var 2)) [.asgS (.var 3) (.call "onward" [(.var 0), (.var 4), (.var 5)]) (.bool true)] []]], .ret (.prim "tuple" [(.prim "sorted" [(.var 3)])])]⟩
noncomputable def F_count_of : CF := ⟨2, 8, [.ex (.call "need_rule" [(.var 0)]), .ex (.call "need_piece" [(.var 0), (.var 1), (.int 0)]), .asg 2 (.bin .Mult (.lst [(.int 1)]) (.call "many_ends" [(.var 0)])), .for1 3 (.var 1) [.asg 4 (.bin .Mult (.lst [(.int 0)]) (.call "many_ends" [(.var 0)])), .for1 5 (.prim "range" [(.call "many_ends" [(.var 0)])]) [.for1 6 (.prim "range" [(.sub (.var 0) (.int 0))]) [.ite (.cmp .Eq (.call "told_by" [(.var 0), (.var 5), (.var 6)]) (.var 3)) [.asg 7 (.call "onward" [(.var 0), (.var 5), (.var 6)]), .asgS (.var 4) (.var 7) (.bin .Add (.sub (.var 4) (.var 7)) (.sub (.var 2) (.var 5)))] []]], .asg 2 (.var 4)], .ret (.prim "sum" [(.var 2)])]⟩
noncomputable def b1t : CF := ⟨2, 2, [.ite (.cmp .Lt (.var 1) (.prim "len" [(.var 0)])) [.ret (.sub (.var 0) (.var 1))] [], .ret (.int 0)]⟩
noncomputable def b8j : CF := ⟨2, 3, [.asg 2 (.bin .Mod (.bin .Mult (.bin .Add (.bin .Mod (.var 0) (.int 1000000007)) (.int 1)) (.int 48271)) (.int 2147483647)), .ret (.bin .FloorDiv (.bin .Mod (.bin .Mult (.var 2) (.bin .Add (.bin .Add (.int 16807) (.bin .Mult (.bin .Mult (.int 7919) (.var 1)) (.var 1))) (.bin .Mult (.int 31) (.var 1)))) (.int 2147483629)) (.int 7))]⟩
noncomputable def b5p : CF := ⟨3, 3, [.ret (.prim "tuple" [(.comp (.bin .Mod (.call "_law_mixed" [(.var 2), (.var 3)]) (.var 0)) 1 true (.prim "range" [(.var 1)]) none)])]⟩
noncomputable def b1u : CF := ⟨3, 4, [.asg 3 (.bin .FloorDiv (.var 1) (.var 0)), .ite (.cmp .Eq (.bin .Mod (.var 2) (.int 2)) (.int 0)) [.ret (.prim "tuple" [(.comp (.bin .Mod (.bin .Add (.bin .Mod (.var 4) (.var 0)) (.call "_law_mixed" [(.var 2), (.bin .FloorDiv (.var 4) (.var 0))])) (.var 0)) 1 true (.prim "range" [(.var 1)]) none)])] [], .ret (.prim "tuple" [(.comp (.bin .Mod (.bin .Add (.bin .FloorDiv (.var 4) (.var 3)) (.call "_law_mixed" [(.var 2), (.bin .Mod (.var 4) (.var 3))])) (.var 0)) 1 true (.prim "range" [(.var 1)]) none)])]⟩
noncomputable def b1v : CF := ⟨2, 5, [.asg 2 (.lst [(.bin .FloorDiv (.var 0) (.int 8)), (.bin .Mod (.bin .FloorDiv (.var 0) (.int 4)) (.int 2)), (.bin .Mod (.bin .FloorDiv (.var 0) (.int 2)) (.int 2)), (.bin .Mod (.var 0) (.int 2))]), .asg 3 (.bin .Add (.int 1) (.bin .Mod (.bin .FloorDiv (.var 1) (.int 2)) (.int 2))), .asg 4 (.bin .Add (.slice (.var 2) none (some (.var 3))) (.slice (.var 2) (some (.bin .Add (.var 3) (.int 1))) none)), .ret (.bin .Mod (.bin .Add (.sub (.var 2) (.var 3)) (.prim "int" [(.cmp .Eq (.var 4) (.sub (.lst [(.lst [(.int 1), (.int 0), (.int 1)]), (.lst [(.int 0), (.int 1), (.int 0)])]) (.bin .Mod (.var 1) (.int 2))))])) (.int 2))]⟩
noncomputable def b5q : CF := ⟨2, 5, [.asg 2 (.bin .Mod (.bin .FloorDiv (.var 1) (.int 2)) (.int 3)), .asgT [3, 4] (.sub (.lst [(.tup [(.bin .FloorDiv (.var 0) (.int 3)), (.bin .Mod (.var 0) (.int 3))]), (.tup [(.bin .Mod (.var 0) (.int 3)), (.bin .FloorDiv (.var 0) (.int 3))])]) (.bin .Mod (.var 1) (.int 2))), .ite (.and [(.cmp .Eq (.var 4) (.var 2)), (.cmp .NotEq (.var 3) (.var 2))]) [.ret (.bin .Sub (.bin .Sub (.int 3) (.var 2)) (.var 3))] [], .ret (.var 3)]⟩
noncomputable def b5r : CF := ⟨4, 6, [.asg 4 (.comp (.bin .Mod (.bin .Add (.bin .FloorDiv (.var 3) (.int 4)) (.bin .Mult (.var 6) (.sub (.lst [(.int 1), (.bin .Sub (.var 0) (.int 1))]) (.bin .Mod (.bin .FloorDiv (.var 3) (.int 64)) (.int 2))))) (.var 0)) 1 true (.prim "range" [(.var 0)]) none), .ite (.and [(.cmp .Eq (.var 0) (.int 4)), (.cmp .Eq (.var 1) (.int 2)), (.cmp .Gt (.bin .Mod (.var 3) (.int 4)) (.int 0))]) [.ret (.prim "tuple" [(.comp (.sub (.var 4) (.bin .Add (.bin .Mult (.bin .FloorDiv (.var 6) (.int 8)) (.int 2)) (.bin .Mod (.var 6) (.int 2)))) 1 true (.prim "range" [(.int 16)]) none)])] [], .ite (.and [(.cmp .Eq (.var 0) (.int 3)), (.cmp .Eq (.var 1) (.int 2)), (.cmp .Gt (.bin .Mod (.var 3) (.int 4)) (.int 0))]) [.ret (.prim "tuple" [(.comp (.sub (.var 4) (.call "_law_beside" [(.var 6), (.bin .FloorDiv (.var 3) (.int 256))])) 1 true (.prim "range" [(.int 9)]) none)])] [], .ite (.and [(.cmp .Eq (.var 0) (.int 2)), (.cmp .Eq (.var 1) (.int 4)), (.cmp .Gt (.bin .Mod (.var 3) (.int 4)) (.int 0))]) [.ret (.prim "tuple" [(.comp (.sub (.var 4) (.call "_law_between" [(.var 6), (.bin .FloorDiv (.var 3) (.int 256))])) 1 true (.prim "range" [(.int 16)]) none)])] [], .asg 5 (.sub (.lst [(.int 1), (.var 0), (.bin .Mult (.var 0) (.var 0)), (.bin .Mult (.bin .Mult (.var 0) (.var 0)) (.var 0))]) (.bin .Mod (.bin .FloorDiv (.var 3) (.int 16)) (.var 1))), .ret (.prim "tuple" [(.comp (.sub (.var 4) (.bin .Mod (.bin .FloorDiv (.var 6) (.var 5)) (.var 0))) 1 true (.prim "range" [(.var 2)]) none)])]⟩
noncomputable def c5z : CF := ⟨2, 6, [.asg 2 (.lst [(.tup [(.int 2), (.int 3), (.int 8)]), (.tup [(.int 2), (.int 2), (.int 4)]), (.tup [(.int 3), (.int 2), (.int 9)]), (.tup [(.int 4), (.int 2), (.int 16)]), (.tup [(.int 2), (.int 1), (.int 2)]), (.tup [(.int 2), (.int 4), (.int 16)]), (.tup [(.int 3), (.int 1), (.int 3)]), (.tup [(.int 4), (.int 1), (.int 4)])]), .asgT [3, 4, 5] (.sub (.var 2) (.bin .Mod (.var 0) (.int 8))), .ite (.cmp .Eq (.bin .Mod (.bin .FloorDiv (.var 0) (.int 8)) (.int 4)) (.int 1)) [.ret (.tup [(.var 3), (.var 4), (.call "_law_mending" [(.var 3), (.var 5), (.var 1)])])] [], .ite (.cmp .Gt (.bin .Mod (.bin .FloorDiv (.var 0) (.int 8)) (.int 4)) (.int 1)) [.ret (.tup [(.var 3), (.var 4), (.call "_law_turned" [(.var 3), (.var 4), (.var 5), (.var 1)])])] [], .ret (.tup [(.var 3), (.var 4), (.call "_law_random" [(.var 3), (.var 5), (.var 1)])])]⟩
end Mine
end
section
open PySem PyProof.Rows
namespace Mine
noncomputable def F_cells_of : CF := ⟨3, 5, [.asg 3 (.lst []), .for1 4 (.prim "range" [(.var 1)]) [.ex (.meth (.var 3) "insert" [(.int 0), (.bin .Mod (.var 2) (.var 0))]), .asg 2 (.bin .FloorDiv (.var 2) (.var 0))], .ret (.var 3)]⟩
noncomputable def F_leads : CF := ⟨4, 5, [.for1 4 (.prim "range" [(.sub (.var 0) (.int 0))]) [.ite (.and [(.cmp .Eq (.call "told_by" [(.var 0), (.var 1), (.var 4)]) (.var 2)), (.cmp .In (.call "onward" [(.var 0), (.var 1), (.var 4)]) (.var 3))]) [.ret (.var 4)] []], .ret .none]⟩
noncomputable def F_origin_of : CF := ⟨2, 8, [.ex (.call "need_rule" [(.var 0)]), .ex (.call "need_piece" [(.var 0), (.var 1), (.int 0)]), .asg 2 (.comp .dct0 1 true (.var 1) none), .asg 3 .dct0, .for1 4 (.prim "range" [(.call "many_ends" [(.var 0)])]) [.asgS (.var 3) (.var 4) (.bool true)], .ex (.meth (.var 2) "append" [(.var 3)]), .for1 5 (.prim "range" [(.bin .Sub (.prim "len" [(.var 1)]) (.int 1)), (.neg (.int 1)), (.neg (.int 1))]) [.for1 4 (.prim "range" [(.call "many_ends" [(.var 0)])]) [.ite (.cmp .IsNot (.call "leads" [(.var 0), (.var 4), (.sub (.var 1) (.var 5)), (.sub (.var 2) (.bin .Add (.var 5) (.int 1)))]) .none) [.asgS (.sub (.var 2) (.var 5)) (.var 4) (.bool true)] []]], .ite (.cmp .Eq (.prim "len" [(.sub (.var 2) (.int 0))]) (.int 0)) [.ret .none] [], .asg 4 (.prim "min" [(.sub (.var 2) (.int 0))]), .asg 6 (.call "cells_of" [(.sub (.var 0) (.int 0)), (.bin .Sub (.sub (.var 0) (.int 1)) (.int 1)), (.var 4)]), .for1 5 (.prim "range" [(.prim "len" [(.var 1)])]) [.asg 7 (.call "leads" [(.var 0), (.var 4), (.sub (.var 1) (.var 5)), (.sub (.var 2) (.bin .Add (.var 5) (.int 1)))]), .ex (.meth (.var 6) "append" [(.var 7)]), .asg 4 (.call "onward" [(.var 0), (.var 4), (.var 7)])], .ret (.var 6)]⟩
noncomputable def F_ends_of : CF := ⟨2, 4, [.ex (.call "need_rule" [(.var 0)]), .ex (.call "need_piece" [(.var 0), (.var 1), (.int 0)]), .asg 2 (.prim "tuple" [(.prim "range" [(.call "many_ends" [(.var 0)])])]), .for1 3 (.var 1) [.asg 2 (.call "ends_behind" [(.var 0), (.var 2), (.var 3)])], .ret (.var 2)]⟩
end Mine
end
section
open PySem PyProof.Rows
namespace Mine
noncomputable def c6a : CF := ⟨2, 4, [.asg 2 (.int 0), .for1 3 (.var 1) [.asg 2 (.bin .Add (.bin .Mult (.var 2) (.sub (.var 0) (.int 0))) (.var 3))], .ret (.sub (.sub (.var 0) (.int 2)) (.var 2))]⟩
noncomputable def L_on : CF := ⟨2, 2, [.ret (.comp (.call "_law_sign" [(.var 0), (.slice (.var 1) (some (.var 2)) (some (.bin .Add (.var 2) (.sub (.var 0) (.int 1)))))]) 1 true (.prim "range" [(.bin .Add (.bin .Sub (.prim "len" [(.var 1)]) (.sub (.var 0) (.int 1))) (.int 1))]) none)]⟩
noncomputable def b8k : CF := ⟨3, 3, [.ret (.comp (.bin .Mod (.bin .FloorDiv (.call "_law_mixed" [(.var 1), (.var 3)]) (.int 3)) (.sub (.var 0) (.int 0))) 1 true (.prim "range" [(.var 2)]) none)]⟩
end Mine
end
section
open PySem PyProof.Rows
namespace Mine
noncomputable def b1w : CF := ⟨1, 1, [.ret (.sub (.lst [(.int 1), (.sub (.var 0) (.int 0)), (.bin .Mult (.sub (.var 0) (.int 0)) (.sub (.var 0) (.int 0))), (.bin .Mult (.bin .Mult (.sub (.var 0) (.int 0)) (.sub (.var 0) (.int 0))) (.sub (.var 0) (.int 0)))]) (.bin .Sub (.sub (.var 0) (.int 1)) (.int 1)))]⟩
noncomputable def b0i : CF := ⟨3, 4, [.asg 3 (.comp (.bin .Add (.bin .Mult (.var 1) (.sub (.var 0) (.int 0))) (.var 4)) 1 true (.prim "range" [(.sub (.var 0) (.int 0))]) none), .ret (.comp (.bin .Mod (.var 4) (.call "_law_many" [(.var 0)])) 1 true (.var 3) (some (.cmp .Eq (.sub (.sub (.var 0) (.int 2)) (.var 4)) (.var 2))))]⟩
noncomputable def a7y : CF := ⟨3, 5, [.asg 3 (.lst []), .for1 4 (.var 1) [.asg 3 (.bin .Add (.var 3) (.call "_law_steps" [(.var 0), (.var 4), (.var 2)]))], .ret (.prim "tuple" [(.prim "sorted" [(.prim "set" [(.var 3)])])])]⟩
end Mine
end
section
open PySem PyProof.Rows
namespace Mine
end Mine
end
section
open PySem PyProof.Rows
namespace Mine
noncomputable def c6b : CF := ⟨3, 5, [.asg 3 (.bin .Mod (.var 2) (.bin .Add (.prim "len" [(.var 1)]) (.int 1))), .asg 4 (.sub (.lst [(.neg (.int 1)), (.sub (.var 0) (.int 0)), (.bin .Add (.sub (.var 0) (.int 0)) (.bin .Mod (.bin .FloorDiv (.var 2) (.int 16)) (.bin .Pow (.int 10) (.int 9)))), (.bool true), .none, (.str "0"), (.lst [(.int 0)]), .dct0]) (.bin .Mod (.bin .FloorDiv (.var 2) (.int 2)) (.int 8))), .ite (.cmp .Gt (.bin .Mod (.var 2) (.int 3)) (.int 0)) [.ret (.bin .Add (.bin .Add (.slice (.var 1) none (some (.var 3))) (.lst [(.var 4)])) (.slice (.var 1) (some (.var 3)) none))] [], .ret (.sub (.lst [(.prim "tuple" [(.var 1)]), (.str "01"), .none, .dct0, (.int 5), (.tup [(.int 0), (.int 1)]), (.bool true)]) (.bin .Mod (.bin .FloorDiv (.var 2) (.int 3)) (.int 7)))]⟩
noncomputable def b8l : CF := ⟨1, 1, [.ret (.and [(.isi (.var 0) "int"), (.not (.isi (.var 0) "bool"))])]⟩
noncomputable def b4c : CF := ⟨2, 6, [.asg 2 (.lst [(.lst [])]), .for1 3 (.prim "range" [(.var 1)]) [.asg 4 (.lst []), .for1 5 (.var 2) [.asg 4 (.bin .Add (.var 4) (.comp (.bin .Add (.var 5) (.lst [(.var 6)])) 1 true (.prim "range" [(.var 0)]) none))], .asg 2 (.var 4)], .ret (.var 2)]⟩
noncomputable def b1x : CF := ⟨2, 8, [.asg 2 (.call "_law_rows" [(.sub (.var 0) (.int 0)), (.bin .Sub (.sub (.var 0) (.int 1)) (.int 1))]), .for1 3 (.var 1) [.asg 4 (.lst []), .for1 5 (.var 2) [.for1 6 (.prim "range" [(.sub (.var 0) (.int 0))]) [.asg 7 (.bin .Add (.var 5) (.lst [(.var 6)])), .ite (.cmp .Eq (.call "_law_sign" [(.var 0), (.slice (.var 7) (some (.bin .Sub (.prim "len" [(.var 7)]) (.sub (.var 0) (.int 1)))) none)]) (.var 3)) [.ex (.meth (.var 4) "append" [(.var 7)])] []]], .asg 2 (.var 4)], .ret (.var 2)]⟩
noncomputable def b1y : CF := ⟨2, 4, [.asg 2 (.int 0), .for1 3 (.var 1) [.asg 2 (.bin .Add (.bin .Mult (.var 2) (.sub (.var 0) (.int 0))) (.var 3))], .ret (.var 2)]⟩
noncomputable def a9k : CF := ⟨3, 5, [.tryx [.ite (.cmp .Eq (.var 0) (.int 0)) [.ex (.call "count_of" [(.var 1), (.var 2)])] [.ite (.cmp .Eq (.var 0) (.int 1)) [.ex (.call "origin_of" [(.var 1), (.var 2)])] [.ex (.call "ends_of" [(.var 1), (.var 2)])]]] "RowError" 3 [.asg 4 (.or [(.isi (.var 3) "BadRule"), (.isi (.var 3) "TooWide"), (.isi (.var 3) "NoBack")]), .asg 4 (.or [(.var 4), (.isi (.var 3) "BadText")]), .ret (.and [(.isi (.var 3) "BadRow"), (.isi (.var 3) "ValueError"), (.not (.var 4))])], .ret (.bool false)]⟩
noncomputable def a7d : CF := ⟨2, 2, [.ite (.or [(.not (.isi (.var 0) "tuple")), (.cmp .NotEq (.var 0) (.var 1))]) [.ret (.bool false)] [], .ret (.cmp .Eq (.comp (.var 2) 1 true (.var 0) (some (.not (.call "_law_whole" [(.var 2)])))) (.lst []))]⟩
noncomputable def L_short : CF := ⟨2, 9, [.asg 2 (.call "_law_origins" [(.var 0), (.var 1)]), .asg 3 (.ite (.cmp .NotEq (.var 2) (.lst [])) (.prim "min" [(.var 2)]) .none), .asg 4 (.prim "tuple" [(.prim "sorted" [(.prim "set" [(.comp (.call "_law_number" [(.var 0), (.slice (.var 9) (some (.prim "len" [(.var 1)])) none)]) 1 true (.var 2) none)])])]), .asg 5 (.prim "list" [(.var 1)]), .for1 6 (.prim "range" [(.int 2)]) [.asg 7 (.call "count_of" [(.var 0), (.var 5)]), .asg 8 (.call "origin_of" [(.var 0), (.var 5)]), .ite (.or [(.not (.call "_law_whole" [(.var 7)])), (.cmp .NotEq (.var 7) (.prim "len" [(.var 2)])), (.cmp .NotEq (.var 8) (.var 3))]) [.ret (.bool false)] [], .ite (.cmp .Eq (.isi (.var 8) "list") (.cmp .Is (.var 3) .none)) [.ret (.bool false)] [], .ite (.or [(.not (.call "_law_ends_right" [(.call "ends_of" [(.var 0), (.var 5)]), (.var 4)])), (.cmp .NotEq (.var 5) (.var 1))]) [.ret (.bool false)] [], .ite (.cmp .IsNot (.var 8) .none) [.ex (.meth (.var 8) "append" [(.int 7)])] [], .ex (.meth (.var 5) "append" [(.int 7)]), .asg 5 (.prim "list" [(.var 1)])], .ret (.bool true)]⟩
noncomputable def c6c : CF := ⟨2, 5, [.asg 2 (.prim "tuple" [(.prim "range" [(.call "_law_many" [(.var 0)])])]), .for1 3 (.var 1) [.asg 2 (.call "_law_further" [(.var 0), (.var 2), (.var 3)])], .asg 4 (.call "origin_of" [(.var 0), (.var 1)]), .ite (.or [(.not (.call "_law_ends_right" [(.call "ends_of" [(.var 0), (.var 1)]), (.var 2)])), (.cmp .NotEq (.cmp .Is (.var 4) .none) (.cmp .Eq (.var 2) (.tup [])))]) [.ret (.bool false)] [], .ite (.cmp .NotEq (.cmp .Gt (.call "count_of" [(.var 0), (.var 1)]) (.int 0)) (.cmp .NotEq (.var 2) (.tup []))) [.ret (.bool false)] [], .ret (.or [(.cmp .Is (.var 4) .none), (.and [(.cmp .Eq (.prim "len" [(.var 4)]) (.bin .Sub (.bin .Add (.prim "len" [(.var 1)]) (.sub (.var 0) (.int 1))) (.int 1))), (.cmp .Eq (.call "piece_on" [(.var 0), (.var 4)]) (.var 1))])])]⟩
noncomputable def F_law5 : CF := ⟨1, 7, [.asg 1 (.call "_law_cell_at" [(.var 0), (.int 0)]), .asg 2 (.call "_law_rule" [(.var 1), (.call "_law_cell_at" [(.var 0), (.int 1)])]), .asg 3 (.bin .Mod (.call "_law_cell_at" [(.var 0), (.int 2)]) (.sub (.lst [(.int 7), (.int 7), (.int 5), (.int 4), (.int 7), (.int 5), (.int 5), (.int 4)]) (.bin .Mod (.var 1) (.int 8)))), .asg 4 (.call "_law_piece" [(.var 2), (.call "_law_cell_at" [(.var 0), (.int 3)]), (.var 3)]), .ite (.cmp .Eq (.bin .Mod (.bin .FloorDiv (.call "_law_cell_at" [(.var 0), (.int 2)]) (.int 7)) (.int 2)) (.int 1)) [.asg 4 (.call "_law_on" [(.var 2), (.call "_law_piece" [(.var 2), (.call "_law_cell_at" [(.var 0), (.int 3)]), (.bin .Sub (.bin .Add (.var 3) (.sub (.var 2) (.int 1))) (.int 1))])])] [], .ite (.not (.call "_law_short" [(.var 2), (.var 4)])) [.ret (.bool false)] [], .asg 5 (.call "_law_piece" [(.var 2), (.call "_law_cell_at" [(.var 0), (.int 4)]), (.bin .Mod (.call "_law_cell_at" [(.var 0), (.int 5)]) (.int 41))]), .ite (.cmp .Gt (.bin .Mod (.bin .FloorDiv (.call "_law_cell_at" [(.var 0), (.int 5)]) (.int 41)) (.int 3)) (.int 0)) [.asg 5 (.call "_law_on" [(.var 2), (.bin .Add (.var 5) (.bin .Mult (.lst [(.int 0)]) (.sub (.var 2) (.int 1))))])] [], .ite (.not (.call "_law_long" [(.var 2), (.var 5)])) [.ret (.bool false)] [], .asg 6 (.call "_law_odd" [(.var 2), (.var 4), (.call "_law_mixed" [(.call "_law_cell_at" [(.var 0), (.int 6)]), (.int 3)])]), .ret (.and [(.call "_law_refused" [(.int 0), (.var 2), (.var 6)]), (.call "_law_refused" [(.int 1), (.var 2), (.var 6)]), (.call "_law_refused" [(.int 2), (.var 2), (.var 6)])])]⟩
end Mine
end
section
open PySem PySem.W PyProof.Rows
namespace Mine
noncomputable def c6d (q : Program) (loose : List Str) : Bool := bltNames.all fun x => !startupNames.contains (Str.ofString x) && !loose.contains (Str.ofString x) && !((recsOf q).map (·.name)).contains (Str.ofString x) && !((litsOf q).map (·.1)).contains (Str.ofString x) && !((clssOf q loose).map (·.name)).contains (Str.ofString x)
noncomputable def b5s (q : Program) (l : List (String × CF)) : Bool := l.all fun p => (recsOf q).any fun d => d.name == Str.ofString p.1 && isF p.2 d
noncomputable def b0j (q : Program) (l : List (String × Int)) : Bool := l.all fun p => match valOf q (Str.ofString p.1) with | some (.int i) => i == p.2 | _ => false
end Mine
end
section
open PySem PySem.W PyProof.Rows
namespace Mine
def subX : List String := ["BadRule", "BadRow", "TooWide", "NoBack", "BadText"]
def topX : List Value := [.type "ValueError", .type "Exception", .type "BaseException", .type "object"]
def a9l (h : Heap) (a : Addr) (x : Str) : Bool := match h.get? a with
  | some o => (match o.data with | .dict es _ => (nsFind es x).isNone | _ => false)
  | none => false
def b1z (h : Heap) (C : Addr) (tl : List Value) : Bool := match h.get? C with
  | some o => (match o.data with | .cls cd => cd.mro == .ref C :: tl && a9l h cd.ns "__class__" | _ => false)
  | none => false
def a5o (h : Heap) (x : String) : Option Addr := match h.nsMap mainGlobals (Str.ofString x) with
  | some (.ref C) => some C
  | _ => none
def b4d (h : Heap) (CR : Addr) : List String -> List Addr -> Bool
  | [], _ => true
  | x :: xs, seen => match a5o h x with
    | some C => b1z h C (.ref CR :: topX) && !(seen.contains C) && b4d h CR xs (C :: seen)
    | none => false
def xOk (h : Heap) : Bool := match a5o h "RowError" with
  | some CR => b1z h CR topX && b4d h CR subX [CR]
  | none => false
theorem b2a {h h' : Heap} (k : ∀ b o, h.get? b = some o -> h'.get? b = some o) {a : Addr} {x : Str} (e : a9l h a x = true) : a9l h' a x = true := by
  unfold a9l at e ⊢
  cases g : h.get? a with
  | none => rw [g] at e; exact dFT e
  | some o => rw [g] at e; erw [k _ _ g]; exact e
theorem a7z {h h' : Heap} (k : ∀ b o, h.get? b = some o -> h'.get? b = some o) {a : Addr} {x : List Value} (e : b1z h a x = true) : b1z h' a x = true := by
  unfold b1z at e ⊢
  cases g : h.get? a with
  | none => rw [g] at e; exact dFT e
  | some o =>
    rw [g] at e; erw [k _ _ g]
    obtain ⟨c, d, dt, sl⟩ := o
    cases dt with
    | cls cd => exact Bool.and_eq_true_iff.mpr ⟨(Bool.and_eq_true_iff.mp e).1, b2a k (Bool.and_eq_true_iff.mp e).2⟩
    | _ => exact dFT e
theorem a8a {h h' : Heap} (k : ∀ b o, h.get? b = some o -> h'.get? b = some o) {x : String} {C : Addr} (e : a5o h x = some C) : a5o h' x = some C := by
  unfold a5o Heap.nsMap at e ⊢
  cases g : h.get? mainGlobals with
  | none => rw [g] at e; exact dNS e
  | some o => rw [g] at e; erw [k _ _ g]; exact e
theorem a8b {h h' : Heap} (k : ∀ b o, h.get? b = some o -> h'.get? b = some o) {CR : Addr} : ∀ {xs : List String} {seen : List Addr}, b4d h CR xs seen = true -> b4d h' CR xs seen = true
  | [], _, _ => rfl
  | x :: xs, seen, e => by
    unfold b4d at e ⊢
    cases g : a5o h x with
    | none => rw [g] at e; exact dFT e
    | some C =>
      rw [g] at e; erw [a8a k g]
      have e1 := Bool.and_eq_true_iff.mp e
      have e2 := Bool.and_eq_true_iff.mp e1.1
      exact Bool.and_eq_true_iff.mpr ⟨Bool.and_eq_true_iff.mpr ⟨a7z k e2.1, e2.2⟩, a8b k e1.2⟩
theorem b8m {h h' : Heap} (k : ∀ b o, h.get? b = some o -> h'.get? b = some o) (e : xOk h = true) : xOk h' = true := by
  unfold xOk at e ⊢
  cases g : a5o h "RowError" with
  | none => rw [g] at e; exact dFT e
  | some C =>
    rw [g] at e; erw [a8a k g]
    have e1 := Bool.and_eq_true_iff.mp e
    exact Bool.and_eq_true_iff.mpr ⟨a7z k e1.1, a8b k e1.2⟩
def excHook : Hook where
  α := Bool
  obs := fun s => xOk s.heap
  val := fun ζ => true
  says := fun ζ h => xOk h = true
  of := fun ζ ζ h => h
  keeps := fun ζ ζ ζ h k => b8m k h
end Mine
open PySem PySem.W PyProof.Rows
namespace Mine
noncomputable def c6z : List (String × CF) := [("is_among", F_is_among), ("rows_of", F_rows_of), ("is_rule", F_is_rule), ("need_rule", F_need_rule), ("number_of", F_number_of), ("is_piece", F_is_piece), ("need_piece", F_need_piece), ("sign_of", F_sign_of), ("piece_on", F_piece_on), ("many_ends", F_many_ends), ("told_by", F_told_by), ("onward", F_onward), ("ends_behind", F_ends_behind), ("ends_of", F_ends_of), ("count_of", F_count_of), ("leads", F_leads), ("cells_of", F_cells_of), ("origin_of", F_origin_of), ("_law_cell_at", b1t), ("_law_mixed", b8j), ("_law_random", b5p), ("_law_mending", b1u), ("_law_between", b1v), ("_law_beside", b5q), ("_law_turned", b5r), ("_law_rule", c5z), ("_law_piece", b8k), ("_law_sign", c6a), ("_law_rows", b4c), ("_law_origins", b1x), ("_law_number", b1y), ("_law_on", L_on), ("_law_many", b1w), ("_law_steps", b0i), ("_law_further", a7y), ("_law_whole", b8l), ("_law_ends_right", a7d), ("_law_short", L_short), ("_law_long", c6c), ("_law_odd", c6b), ("_law_refused", a9k), ("law", F_law5)]
noncomputable def c7a : List (String × Int) := [("MOST_SIGNS", 4), ("MOST_WIDE", 4), ("MOST_ROWS", 16)]
noncomputable def xHas (q : Program) : Bool := ("RowError" :: subX).all fun x => match specOf q (Str.ofString x) with | some (a, b) => a == "ValueError.__new__" && b == [.type "ValueError", .type "Exception", .type "BaseException", .type "object"] | none => false
noncomputable def chk5 (q : Program) : Bool := c6d q (looseW q []) && xHas q && b5s q c6z && b0j q c7a
theorem keepC {A T : Prop} (main : A) (hc : T) : A := main
set_option maxRecDepth 100000 in
set_option maxHeartbeats 8000000 in
theorem head5 (H : ∀ (q : Program) (R : WRecords) (XP : (Str -> Option Value) -> Heap -> Prop) (w : World) (s₀ s₁ : Shared) (mg mb : Str -> Option Value), chk5 q = true -> Ground q [] R XP w s₀ mg mb s₁.heap -> xOk s₁.heap = true -> ∀ fa : Addr, mg (Str.ofString "law") = some (.ref fa) -> s₁.gens = #[] -> ∀ (args : List WData) (vals : List Value), PySem.Challenge.rw_uf020003_05.row.toRowW.claim.pre args = true -> WellAll w.params s₁.heap vals args ->
    wpAny (model PySem.Challenge.rw_uf020003_05.row.prog w) callerA (PySem.call (.ref fa) vals) (fun v s' => GoodWG PySem.Challenge.rw_uf020003_05.row.toRowW.claim (classAt s₀.heap) (ExcName.means s₀.heap) args s₁ (.ok (.ret v)) s')
      (fun e s' => GoodWG PySem.Challenge.rw_uf020003_05.row.toRowW.claim (classAt s₀.heap) (ExcName.means s₀.heap) args s₁ (.error e) s') s₁) : PySem.Challenge.rw_uf020003_05.Holds := by
  w_on
  refine holds_law (by decide +kernel) fun said => ?_
  apply keepC
  case main =>
    o_head Mine.excHook
    (case hw => w_witness2)
  case hc =>
    intro w s₀ s₁ mg mb G Y fa o pm cd doc dV kV ho hd hcd hD hmg hg args vals as hpre hlay hrd hwl hlo
    exact H _ _ _ w s₀ s₁ mg mb (by decide +kernel) G Y fa hmg hg args vals hpre hwl
end Mine
end
section
open PySem PyProof.Rows
namespace Mine
theorem ff {P : Prop} (h : false = true) : P := Bool.noConfusion h
theorem cNS {α : Type} {x : α} {P : Prop} (h : none = some x) : P := nomatch h
theorem cGN {α : Type} {y : Option α} {x : α} {P : Prop} (k : y = none) (h : y = some x) : P := cNS (k.symm.trans h)
theorem a0q {α : Type} {x y : α} (h : some x = some y) : x = y := Option.some.inj h
theorem a2o {α β : Type} {x y : α} {z w : β} (h : some (x, z) = some (y, w)) : x = y /\ z = w := Prod.mk.inj (Option.some.inj h)
theorem a4s {α : Type} {c : Prop} [i : Decidable c] {x y : α} (h : (if c then some x else none) = some y) : c /\ x = y :=
  match i, h with
  | .isTrue hc, h => ⟨hc, Option.some.inj h⟩
  | .isFalse _, h => cNS h
theorem ite_or {α : Type} {c : Prop} [i : Decidable c] {x y z : α} (h : (if c then x else y) = z) : (c /\ x = z) ∨ (¬ c /\ y = z) :=
  match i, h with
  | .isTrue hc, h => .inl ⟨hc, h⟩
  | .isFalse hc, h => .inr ⟨hc, h⟩
theorem a0f {c : Prop} [i : Decidable c] {x : c -> Bool} (h : (if h : c then x h else false) = true) : ∃ hc : c, x hc = true :=
  match i, h with
  | .isTrue hc, h => ⟨hc, h⟩
  | .isFalse _, h => ff h
theorem a4c {E : Expr} {f : Const -> Nat -> Pos -> Bool} {P : Expr -> Prop} (h : a5n E f = true) (κ : ∀ c k p, f c k p = true -> P (.Constant c k p)) : P E :=
  Exists.elim (a0f h) fun hc h => @Expr.Constant.elim (fun E => ∀ hc : E.ctorIdx = 19, @Expr.Constant.elim (fun ζ => Bool) E hc f = true -> P E) E hc (fun c k p ζ h => κ c k p h) hc h
theorem a5u {E : Expr} {f : Const -> Nat -> Pos -> Bool} (h : a5n E f = true) : E.ctorIdx = 19 := (a0f h).1
theorem a1r {E : Expr} {f : Str -> Pos -> Bool} {P : Expr -> Prop} (h : a2v E f = true) (κ : ∀ x p, f x p = true -> P (.Name x p)) : P E :=
  Exists.elim (a0f h) fun hc h => @Expr.Name.elim (fun E => ∀ hc : E.ctorIdx = 23, @Expr.Name.elim (fun ζ => Bool) E hc f = true -> P E) E hc (fun x p ζ h => κ x p h) hc h
theorem b5t {E : Expr} {f : Str -> Pos -> Bool} (h : a2v E f = true) : E.ctorIdx = 23 := (a0f h).1
theorem b5u {E : Expr} {f : Str -> Pos -> Bool} (h : a2v E f = true) : ∃ x p, E = .Name x p /\ f x p = true := by
  apply a1r h; intro x p h
  exact ⟨x, p, rfl, h⟩
theorem c7b {E : Expr} {f : Expr -> Operator -> Expr -> Pos -> Bool} {P : Expr -> Prop} (h : c2s E f = true) (κ : ∀ l o r p, f l o r p = true -> P (.BinOp l o r p)) : P E :=
  Exists.elim (a0f h) fun hc h => @Expr.BinOp.elim (fun E => ∀ hc : E.ctorIdx = 2, @Expr.BinOp.elim (fun ζ => Bool) E hc f = true -> P E) E hc (fun l o r p ζ h => κ l o r p h) hc h
theorem c7c {E : Expr} {f : Expr -> Operator -> Expr -> Pos -> Bool} (h : c2s E f = true) : E.ctorIdx = 2 := (a0f h).1
theorem c7d {E : Expr} {f : Expr -> Operator -> Expr -> Pos -> Bool} (h : c2s E f = true) : ∃ l o r p, E = .BinOp l o r p /\ f l o r p = true := by
  apply c7b h; intro l o r p h
  exact ⟨l, o, r, p, rfl, h⟩
theorem c6e {E : Expr} {f : UnaryOp -> Expr -> Pos -> Bool} {P : Expr -> Prop} (h : onUn E f = true) (κ : ∀ o x p, f o x p = true -> P (.UnaryOp o x p)) : P E :=
  Exists.elim (a0f h) fun hc h => @Expr.UnaryOp.elim (fun E => ∀ hc : E.ctorIdx = 3, @Expr.UnaryOp.elim (fun ζ => Bool) E hc f = true -> P E) E hc (fun o x p ζ h => κ o x p h) hc h
theorem c6f {E : Expr} {f : UnaryOp -> Expr -> Pos -> Bool} (h : onUn E f = true) : E.ctorIdx = 3 := (a0f h).1
theorem b5v {E : Expr} {f : BoolOp -> List Expr -> Pos -> Bool} {P : Expr -> Prop} (h : b5m E f = true) (κ : ∀ o vs p, f o vs p = true -> P (.BoolOp o vs p)) : P E :=
  Exists.elim (a0f h) fun hc h => @Expr.BoolOp.elim (fun E => ∀ hc : E.ctorIdx = 0, @Expr.BoolOp.elim (fun ζ => Bool) E hc f = true -> P E) E hc (fun o vs p ζ h => κ o vs p h) hc h
theorem b5w {E : Expr} {f : BoolOp -> List Expr -> Pos -> Bool} (h : b5m E f = true) : E.ctorIdx = 0 := (a0f h).1
theorem a8c {E : Expr} {f : Expr -> List CmpOp -> List Expr -> Pos -> Bool} {P : Expr -> Prop} (h : a5t E f = true) (κ : ∀ l os rs p, f l os rs p = true -> P (.Compare l os rs p)) : P E :=
  Exists.elim (a0f h) fun hc h => @Expr.Compare.elim (fun E => ∀ hc : E.ctorIdx = 15, @Expr.Compare.elim (fun ζ => Bool) E hc f = true -> P E) E hc (fun l os rs p ζ h => κ l os rs p h) hc h
theorem a8d {E : Expr} {f : Expr -> List CmpOp -> List Expr -> Pos -> Bool} (h : a5t E f = true) : E.ctorIdx = 15 := (a0f h).1
theorem b8n {E : Expr} {f : Expr -> Expr -> Expr -> Pos -> Bool} {P : Expr -> Prop} (h : b0h E f = true) (κ : ∀ t x y p, f t x y p = true -> P (.IfExp t x y p)) : P E :=
  Exists.elim (a0f h) fun hc h => @Expr.IfExp.elim (fun E => ∀ hc : E.ctorIdx = 5, @Expr.IfExp.elim (fun ζ => Bool) E hc f = true -> P E) E hc (fun t x y p ζ h => κ t x y p h) hc h
theorem b8o {E : Expr} {f : Expr -> Expr -> Expr -> Pos -> Bool} (h : b0h E f = true) : E.ctorIdx = 5 := (a0f h).1
theorem b8p {E : Expr} {f : Expr -> Expr -> Expr -> Pos -> Bool} (h : b0h E f = true) : ∃ t x y p, E = .IfExp t x y p /\ f t x y p = true := by
  apply b8n h; intro t x y p h
  exact ⟨t, x, y, p, rfl, h⟩
theorem a5v {E : Expr} {f : List Expr -> Nat -> Pos -> Bool} {P : Expr -> Prop} (h : a4b E f = true) (κ : ∀ vs k p, f vs k p = true -> P (.Tuple vs k p)) : P E :=
  Exists.elim (a0f h) fun hc h => @Expr.Tuple.elim (fun E => ∀ hc : E.ctorIdx = 25, @Expr.Tuple.elim (fun ζ => Bool) E hc f = true -> P E) E hc (fun vs k p ζ h => κ vs k p h) hc h
theorem b8q {E : Expr} {f : List Expr -> Nat -> Pos -> Bool} (h : a4b E f = true) : E.ctorIdx = 25 := (a0f h).1
theorem b8r {E : Expr} {f : List Expr -> Nat -> Pos -> Bool} (h : a4b E f = true) : ∃ vs k p, E = .Tuple vs k p /\ f vs k p = true := by
  apply a5v h; intro vs k p h
  exact ⟨vs, k, p, rfl, h⟩
theorem c2u {E : Expr} {f : List Expr -> Pos -> Bool} {P : Expr -> Prop} (h : b5n E f = true) (κ : ∀ vs p, f vs p = true -> P (.List vs p)) : P E :=
  Exists.elim (a0f h) fun hc h => @Expr.List.elim (fun E => ∀ hc : E.ctorIdx = 24, @Expr.List.elim (fun ζ => Bool) E hc f = true -> P E) E hc (fun vs p ζ h => κ vs p h) hc h
theorem c2v {E : Expr} {f : List Expr -> Pos -> Bool} (h : b5n E f = true) : E.ctorIdx = 24 := (a0f h).1
theorem c2w {E : Expr} {f : List Expr -> Pos -> Bool} (h : b5n E f = true) : ∃ vs p, E = .List vs p /\ f vs p = true := by
  apply c2u h; intro vs p h
  exact ⟨vs, p, rfl, h⟩
theorem c2x {E : Expr} {f : List (Option Expr) -> List Expr -> Pos -> Bool} {P : Expr -> Prop} (h : b5o E f = true) (κ : ∀ ks vs p, f ks vs p = true -> P (.Dict ks vs p)) : P E :=
  Exists.elim (a0f h) fun hc h => @Expr.Dict.elim (fun E => ∀ hc : E.ctorIdx = 6, @Expr.Dict.elim (fun ζ => Bool) E hc f = true -> P E) E hc (fun ks vs p ζ h => κ ks vs p h) hc h
theorem b5x {E : Expr} {f : List (Option Expr) -> List Expr -> Pos -> Bool} (h : b5o E f = true) : E.ctorIdx = 6 := (a0f h).1
theorem b4e {E : Expr} {f : Expr -> Expr -> Pos -> Bool} {P : Expr -> Prop} (h : b7k E f = true) (κ : ∀ v s p, f v s p = true -> P (.Subscript v s p)) : P E :=
  Exists.elim (a0f h) fun hc h => @Expr.Subscript.elim (fun E => ∀ hc : E.ctorIdx = 21, @Expr.Subscript.elim (fun ζ => Bool) E hc f = true -> P E) E hc (fun v s p ζ h => κ v s p h) hc h
theorem b8s {E : Expr} {f : Expr -> Expr -> Pos -> Bool} (h : b7k E f = true) : E.ctorIdx = 21 := (a0f h).1
theorem c7e {E : Expr} {f : Expr -> Expr -> Pos -> Bool} (h : b7k E f = true) : ∃ v s p, E = .Subscript v s p /\ f v s p = true := by
  apply b4e h; intro v s p h
  exact ⟨v, s, p, rfl, h⟩
theorem b8t {E : Expr} {f : Option Expr -> Option Expr -> Option Expr -> Pos -> Bool} {P : Expr -> Prop} (h : b8f E f = true) (κ : ∀ l u st p, f l u st p = true -> P (.Slice l u st p)) : P E :=
  Exists.elim (a0f h) fun hc h => @Expr.Slice.elim (fun E => ∀ hc : E.ctorIdx = 26, @Expr.Slice.elim (fun ζ => Bool) E hc f = true -> P E) E hc (fun l u st p ζ h => κ l u st p h) hc h
theorem a7r {E : Expr} {f : Expr -> List Expr -> List Keyword -> Pos -> Bool} {P : Expr -> Prop} (h : a9i E f = true) (κ : ∀ g args kw pos, f g args kw pos = true -> P (.Call g args kw pos)) : P E :=
  Exists.elim (a0f h) fun hc h => @Expr.Call.elim (fun E => ∀ hc : E.ctorIdx = 16, @Expr.Call.elim (fun ζ => Bool) E hc f = true -> P E) E hc (fun g args kw pos ζ h => κ g args kw pos h) hc h
theorem a5w {E : Expr} {f : Expr -> List Expr -> List Keyword -> Pos -> Bool} (h : a9i E f = true) : E.ctorIdx = 16 := (a0f h).1
theorem c2y {E : Expr} {f : Expr -> Str -> Pos -> Bool} {P : Expr -> Prop} (h : c5w E f = true) (κ : ∀ o n p, f o n p = true -> P (.Attribute o n p)) : P E :=
  Exists.elim (a0f h) fun hc h => @Expr.Attribute.elim (fun E => ∀ hc : E.ctorIdx = 20, @Expr.Attribute.elim (fun ζ => Bool) E hc f = true -> P E) E hc (fun o n p ζ h => κ o n p h) hc h
theorem c2z {E : Expr} {f : Expr -> List Comprehension -> Scope -> Pos -> Bool} {P : Expr -> Prop} (h : b8g E f = true) (κ : ∀ el gs csc pos, f el gs csc pos = true -> P (.ListComp el gs csc pos)) : P E :=
  Exists.elim (a0f h) fun hc h => @Expr.ListComp.elim (fun E => ∀ hc : E.ctorIdx = 8, @Expr.ListComp.elim (fun ζ => Bool) E hc f = true -> P E) E hc (fun el gs csc pos ζ h => κ el gs csc pos h) hc h
theorem c3a {E : Expr} {f : Expr -> List Comprehension -> Scope -> Pos -> Bool} (h : b8g E f = true) : E.ctorIdx = 8 := (a0f h).1
theorem a6r {E : Stmt} {f : List Expr -> Expr -> Pos -> Bool} {P : Stmt -> Prop} (h : a7q E f = true) (κ : ∀ ts v pos, f ts v pos = true -> P (.Assign ts v pos)) : P E :=
  Exists.elim (a0f h) fun hc h => @Stmt.Assign.elim (fun E => ∀ hc : E.ctorIdx = 5, @Stmt.Assign.elim (fun ζ => Bool) E hc f = true -> P E) E hc (fun ts v pos ζ h => κ ts v pos h) hc h
theorem c3b {E : Stmt} {f : Expr -> Pos -> Bool} {P : Stmt -> Prop} (h : b8h E f = true) (κ : ∀ v pos, f v pos = true -> P (.Expr v pos)) : P E :=
  Exists.elim (a0f h) fun hc h => @Stmt.Expr.elim (fun E => ∀ hc : E.ctorIdx = 24, @Stmt.Expr.elim (fun ζ => Bool) E hc f = true -> P E) E hc (fun v pos ζ h => κ v pos h) hc h
theorem c3c {E : Stmt} {f : Expr -> Pos -> Bool} (h : b8h E f = true) : ∃ v pos, E = .Expr v pos /\ f v pos = true := by
  apply c3b h; intro v pos h
  exact ⟨v, pos, rfl, h⟩
theorem onIf_d {E : Stmt} {f : Expr -> List Stmt -> List Stmt -> Pos -> Bool} {P : Stmt -> Prop} (h : onIf E f = true) (κ : ∀ e b o pos, f e b o pos = true -> P (.If e b o pos)) : P E :=
  Exists.elim (a0f h) fun hc h => @Stmt.If.elim (fun E => ∀ hc : E.ctorIdx = 12, @Stmt.If.elim (fun ζ => Bool) E hc f = true -> P E) E hc (fun e b o pos ζ h => κ e b o pos h) hc h
theorem onIf_t {E : Stmt} {f : Expr -> List Stmt -> List Stmt -> Pos -> Bool} (h : onIf E f = true) : ∃ e b o pos, E = .If e b o pos /\ f e b o pos = true := by
  apply onIf_d h; intro e b o pos h
  exact ⟨e, b, o, pos, rfl, h⟩
theorem c7f {E : Stmt} {f : Expr -> Expr -> List Stmt -> List Stmt -> Pos -> Bool} {P : Stmt -> Prop} (h : c6x E f = true) (κ : ∀ t it bd o pos, f t it bd o pos = true -> P (.For t it bd o pos)) : P E :=
  Exists.elim (a0f h) fun hc h => @Stmt.For.elim (fun E => ∀ hc : E.ctorIdx = 9, @Stmt.For.elim (fun ζ => Bool) E hc f = true -> P E) E hc (fun t it bd o pos ζ h => κ t it bd o pos h) hc h
theorem c7g {E : Stmt} {f : Option Expr -> Pos -> Bool} {P : Stmt -> Prop} (h : onRet E f = true) (κ : ∀ v pos, f v pos = true -> P (.Return v pos)) : P E :=
  Exists.elim (a0f h) fun hc h => @Stmt.Return.elim (fun E => ∀ hc : E.ctorIdx = 3, @Stmt.Return.elim (fun ζ => Bool) E hc f = true -> P E) E hc (fun v pos ζ h => κ v pos h) hc h
theorem b8u {E : Stmt} {f : Option Expr -> Option Expr -> Pos -> Bool} {P : Stmt -> Prop} (h : onRaise E f = true) (κ : ∀ e ca pos, f e ca pos = true -> P (.Raise e ca pos)) : P E :=
  Exists.elim (a0f h) fun hc h => @Stmt.Raise.elim (fun E => ∀ hc : E.ctorIdx = 16, @Stmt.Raise.elim (fun ζ => Bool) E hc f = true -> P E) E hc (fun e ca pos ζ h => κ e ca pos h) hc h
theorem c7h {E : Stmt} {f : List Stmt -> List ExceptHandler -> List Stmt -> List Stmt -> Pos -> Bool} {P : Stmt -> Prop} (h : onTry E f = true) (κ : ∀ bd hs oe fe pos, f bd hs oe fe pos = true -> P (.Try bd hs oe fe pos)) : P E :=
  Exists.elim (a0f h) fun hc h => @Stmt.Try.elim (fun E => ∀ hc : E.ctorIdx = 17, @Stmt.Try.elim (fun ζ => Bool) E hc f = true -> P E) E hc (fun bd hs oe fe pos ζ h => κ bd hs oe fe pos h) hc h
theorem onCI_d {E : Const} {f : Int -> Bool} {P : Const -> Prop} (h : onCI E f = true) (κ : ∀ j, f j = true -> P (.int j)) : P E :=
  Exists.elim (a0f h) fun hc h => @Const.int.elim (fun E => ∀ hc : E.ctorIdx = 2, @Const.int.elim (fun ζ => Bool) E hc f = true -> P E) E hc (fun j ζ h => κ j h) hc h
theorem onCB_d {E : Const} {f : Bool -> Bool} {P : Const -> Prop} (h : onCB E f = true) (κ : ∀ j, f j = true -> P (.bool j)) : P E :=
  Exists.elim (a0f h) fun hc h => @Const.bool.elim (fun E => ∀ hc : E.ctorIdx = 1, @Const.bool.elim (fun ζ => Bool) E hc f = true -> P E) E hc (fun j ζ h => κ j h) hc h
theorem c6g {E : Const} {f : Str -> Bool} {P : Const -> Prop} (h : onCS E f = true) (κ : ∀ j, f j = true -> P (.str j)) : P E :=
  Exists.elim (a0f h) fun hc h => @Const.str.elim (fun E => ∀ hc : E.ctorIdx = 5, @Const.str.elim (fun ζ => Bool) E hc f = true -> P E) E hc (fun j ζ h => κ j h) hc h
theorem a0z {α : Type} {l : List α} {b : Bool} {P : List α -> Prop} (h : a2c l b = true) (k : b = true -> P []) : P l := by
  cases l with
  | nil => exact k h
  | cons a l => exact ff h
theorem a1d {α : Type} {l : List α} {f : α -> List α -> Bool} {P : List α -> Prop} (h : a1q l f = true) (k : ∀ a r, f a r = true -> P (a :: r)) : P l := by
  cases l with
  | nil => exact ff h
  | cons a l => exact k a l h
theorem b5y {α : Type} {l : Option α} {b : Bool} {P : Option α -> Prop} (h : b8i l b = true) (k : b = true -> P none) : P l := by
  cases l with
  | none => exact k h
  | some a => exact ff h
theorem a7s {α : Type} {l : Option α} {f : α -> Bool} {P : Option α -> Prop} (h : a9j l f = true) (k : ∀ a, f a = true -> P (some a)) : P l := by
  cases l with
  | none => exact ff h
  | some a => exact k a h
theorem onCN_d {o : Const} {b : Bool} {P : Const -> Prop} (h : onCN o b = true) (k : b = true -> P .none) : P o := by
  cases o with
  | none => exact k h
  | _ => exact ff h
theorem onUS_d {o : UnaryOp} {b : Bool} {P : UnaryOp -> Prop} (h : onUS o b = true) (k : b = true -> P .USub) : P o := by
  cases o with
  | USub => exact k h
  | _ => exact ff h
theorem onUN_d {o : UnaryOp} {b : Bool} {P : UnaryOp -> Prop} (h : onUN o b = true) (k : b = true -> P .Not) : P o := by
  cases o with
  | Not => exact k h
  | _ => exact ff h
theorem onBA_d {o : BoolOp} {b : Bool} {P : BoolOp -> Prop} (h : onBA o b = true) (k : b = true -> P .And) : P o := by
  cases o with
  | And => exact k h
  | _ => exact ff h
theorem onBO_d {o : BoolOp} {b : Bool} {P : BoolOp -> Prop} (h : onBO o b = true) (k : b = true -> P .Or) : P o := by
  cases o with
  | Or => exact k h
  | _ => exact ff h
theorem pInt_t {E : Expr} {f : Int -> Nat -> Pos -> Bool} (h : pInt E f = true) : ∃ j k p, E = .Constant (.int j) k p /\ f j k p = true := by
  apply a4c h; intro c k p h
  apply onCI_d h; intro j h
  exact ⟨j, k, p, rfl, h⟩
theorem c7i {E : Expr} {f : Bool -> Nat -> Pos -> Bool} (h : pBool E f = true) : ∃ j k p, E = .Constant (.bool j) k p /\ f j k p = true := by
  apply a4c h; intro c k p h
  apply onCB_d h; intro j h
  exact ⟨j, k, p, rfl, h⟩
theorem pStr_t {E : Expr} {f : Str -> Nat -> Pos -> Bool} (h : pStr E f = true) : ∃ j k p, E = .Constant (.str j) k p /\ f j k p = true := by
  apply a4c h; intro c k p h
  apply c6g h; intro j h
  exact ⟨j, k, p, rfl, h⟩
theorem c7j {E : Expr} {f : Nat -> Pos -> Bool} (h : pNone E f = true) : ∃ k p, E = .Constant .none k p /\ f k p = true := by
  apply a4c h; intro c k p h
  apply onCN_d h; intro h
  exact ⟨k, p, rfl, h⟩
theorem pNeg_t {E : Expr} {f : Expr -> Pos -> Bool} (h : pNeg E f = true) : ∃ x p, E = .UnaryOp .USub x p /\ f x p = true := by
  apply c6e h; intro o x p h
  apply onUS_d h; intro h
  exact ⟨x, p, rfl, h⟩
theorem pNot_t {E : Expr} {f : Expr -> Pos -> Bool} (h : pNot E f = true) : ∃ x p, E = .UnaryOp .Not x p /\ f x p = true := by
  apply c6e h; intro o x p h
  apply onUN_d h; intro h
  exact ⟨x, p, rfl, h⟩
theorem pAnd_t {E : Expr} {f : List Expr -> Pos -> Bool} (h : pAnd E f = true) : ∃ vs p, E = .BoolOp .And vs p /\ f vs p = true := by
  apply b5v h; intro o vs p h
  apply onBA_d h; intro h
  exact ⟨vs, p, rfl, h⟩
theorem pOr_t {E : Expr} {f : List Expr -> Pos -> Bool} (h : pOr E f = true) : ∃ vs p, E = .BoolOp .Or vs p /\ f vs p = true := by
  apply b5v h; intro o vs p h
  apply onBO_d h; intro h
  exact ⟨vs, p, rfl, h⟩
theorem pCmp_t {E : Expr} {f : Expr -> CmpOp -> Expr -> Pos -> Bool} (h : pCmp E f = true) : ∃ l o r p, E = .Compare l [o] [r] p /\ f l o r p = true := by
  apply a8c h; intro l os rs p h
  apply a1d h; intro o os h
  apply a0z h; intro h
  apply a1d h; intro r rs h
  apply a0z h; intro h
  exact ⟨l, o, r, p, rfl, h⟩
theorem c7k {E : Expr} {f : Expr -> CmpOp -> CmpOp -> Expr -> Expr -> Pos -> Bool} (h : pCmp2 E f = true) : ∃ l o o' r r' p, E = .Compare l [o, o'] [r, r'] p /\ f l o o' r r' p = true := by
  apply a8c h; intro l os rs p h
  apply a1d h; intro o os h
  apply a1d h; intro o' os h
  apply a0z h; intro h
  apply a1d h; intro r rs h
  apply a1d h; intro r' rs h
  apply a0z h; intro h
  exact ⟨l, o, o', r, r', p, rfl, h⟩
theorem c7l {E : Expr} {f : Pos -> Bool} (h : pDct0 E f = true) : ∃ p, E = .Dict [] [] p /\ f p = true := by
  apply c2x h; intro ks vs p h
  apply a0z h; intro h
  apply a0z h; intro h
  exact ⟨p, rfl, h⟩
theorem c3d {E : Expr} {f : Expr -> Option Expr -> Option Expr -> Pos -> Pos -> Bool} (h : c5x E f = true) : ∃ v l u sp p, E = .Subscript v (.Slice l u none sp) p /\ f v l u sp p = true := by
  apply b4e h; intro v s p h
  apply b8t h; intro l u st sp h
  apply b5y h; intro h
  exact ⟨v, l, u, sp, p, rfl, h⟩
theorem b8v {E : Expr} {f : Str -> Pos -> List Expr -> Pos -> Bool} (h : c2t E f = true) : ∃ x px args pos, E = .Call (.Name x px) args [] pos /\ f x px args pos = true := by
  apply a7r h; intro fn args kw pos h
  apply a1r h; intro x px h
  apply a0z h; intro h
  exact ⟨x, px, args, pos, rfl, h⟩
theorem pIsi_t {E : Expr} {f : Str -> Pos -> Expr -> Str -> Pos -> Pos -> Bool} (h : pIsi E f = true) : ∃ x px v y py pos, E = .Call (.Name x px) [v, .Name y py] [] pos /\ f x px v y py pos = true := by
  apply a7r h; intro fn args kw pos h
  apply a1r h; intro x px h
  apply a1d h; intro v args h
  apply a1d h; intro w args h
  apply a1r h; intro y py h
  apply a0z h; intro h
  apply a0z h; intro h
  exact ⟨x, px, v, y, py, pos, rfl, h⟩
theorem c7m {E : Expr} {f : Expr -> Str -> Pos -> List Expr -> Pos -> Bool} (h : pMeth E f = true) : ∃ o n ap args pos, E = .Call (.Attribute o n ap) args [] pos /\ f o n ap args pos = true := by
  apply a7r h; intro fn args kw pos h
  apply c2y h; intro o n ap h
  apply a0z h; intro h
  exact ⟨o, n, ap, args, pos, rfl, h⟩
theorem pAsg_t {E : Stmt} {f : Str -> Pos -> Expr -> Pos -> Bool} (h : pAsg E f = true) : ∃ x px v pos, E = .Assign [.Name x px] v pos /\ f x px v pos = true := by
  apply a6r h; intro ts v pos h
  apply a1d h; intro t tr h
  apply a1r h; intro x px h
  apply a0z h; intro h
  exact ⟨x, px, v, pos, rfl, h⟩
theorem c7n {E : Stmt} {f : List Expr -> Nat -> Pos -> Expr -> Pos -> Bool} (h : pAsgT E f = true) : ∃ ts k p v pos, E = .Assign [.Tuple ts k p] v pos /\ f ts k p v pos = true := by
  apply a6r h; intro tts v pos h
  apply a1d h; intro t tr h
  apply a5v h; intro ts k p h
  apply a0z h; intro h
  exact ⟨ts, k, p, v, pos, rfl, h⟩
theorem c7o {E : Stmt} {f : Expr -> Expr -> Pos -> Expr -> Pos -> Bool} (h : pAsgS E f = true) : ∃ o k p v pos, E = .Assign [.Subscript o k p] v pos /\ f o k p v pos = true := by
  apply a6r h; intro tts v pos h
  apply a1d h; intro t tr h
  apply b4e h; intro o k p h
  apply a0z h; intro h
  exact ⟨o, k, p, v, pos, rfl, h⟩
theorem pRet_t {E : Stmt} {f : Expr -> Pos -> Bool} (h : pRet E f = true) : ∃ v pos, E = .Return (some v) pos /\ f v pos = true := by
  apply c7g h; intro v pos h
  apply a7s h; intro v h
  exact ⟨v, pos, rfl, h⟩
theorem c7p {E : Stmt} {f : Str -> Pos -> Expr -> List Stmt -> Pos -> Bool} (h : pFor1 E f = true) : ∃ x px it bd pos, E = .For (.Name x px) it bd [] pos /\ f x px it bd pos = true := by
  apply c7f h; intro t it bd o pos h
  apply a1r h; intro x px h
  apply a0z h; intro h
  exact ⟨x, px, it, bd, pos, rfl, h⟩
theorem c3e {E : Stmt} {f : Str -> Pos -> Str -> Nat -> Pos -> Pos -> Pos -> Bool} (h : c5y E f = true) : ∃ x px t a b cp pos, E = .Raise (some (.Call (.Name x px) [.Constant (.str t) a b] [] cp)) none pos /\ f x px t a b cp pos = true := by
  apply b8u h; intro e ca pos h
  apply a7s h; intro e h
  apply a7r h; intro fn args kw cp h
  apply a1r h; intro x px h
  apply a1d h; intro v vs h
  apply a4c h; intro k a b h
  apply c6g h; intro t h
  apply a0z h; intro h
  apply a0z h; intro h
  apply b5y h; intro h
  exact ⟨x, px, t, a, b, cp, pos, rfl, h⟩
theorem pLC_t {E : Expr} {f : Expr -> Expr -> Expr -> List Expr -> Scope -> Pos -> Bool} (h : pLC E f = true) : ∃ el tg it ifs csc pos, E = .ListComp el [⟨tg, it, ifs, 0⟩] csc pos /\ f el tg it ifs csc pos = true := by
  apply c2z h; intro el gs csc pos h
  apply a1d h; intro g gs h
  apply a0z h; intro h
  cases g with
  | mk tg it ifs n =>
    have h1 := Bool.and_eq_true_iff.mp h
    obtain rfl := beq_iff_eq.mp h1.1
    exact ⟨el, tg, it, ifs, csc, pos, rfl, h1.2⟩
theorem pTry_t {E : Stmt} {f : List Stmt -> Str -> Pos -> Str -> List Stmt -> Pos -> Pos -> Bool} (h : pTry E f = true) : ∃ bd x px n hb hp pos, E = .Try bd [.ExceptHandler (some (.Name x px)) (some n) hb hp] [] [] pos /\ f bd x px n hb hp pos = true := by
  apply c7h h; intro bd hs oe fe pos h
  apply a1d h; intro g hs h
  apply a0z h; intro h
  apply a0z h; intro h
  apply a0z h; intro h
  cases g with
  | ExceptHandler ty nm hb hp =>
    apply a7s h; intro ty h
    apply a1r h; intro x px h
    apply a7s h; intro n h
    exact ⟨bd, x, px, n, hb, hp, pos, rfl, h⟩
section
variable {names : List Str} {sc : Scope} {E : Expr} {S : Stmt}
theorem c7q {i : Int} (h : isE names sc (.int i) E = true) : ∃ j a b, E = .Constant (.int j) a b /\ (i == j) = true := pInt_t (f := fun j k p => i == j) h
theorem c3f {i : Bool} (h : isE names sc (.bool i) E = true) : ∃ j a b, E = .Constant (.bool j) a b /\ (i == j) = true := c7i (f := fun j k p => i == j) h
theorem c3g (h : isE names sc .none E = true) : ∃ a b, E = .Constant .none a b /\ true = true := c7j (f := fun k p => true) h
theorem c7r {i : String} (h : isE names sc (.str i) E = true) : ∃ j a b, E = .Constant (.str j) a b /\ (j == Str.ofString i) = true := pStr_t (f := fun j k p => j == Str.ofString i) h
theorem a8e {i : Nat} (h : isE names sc (.var i) E = true) : ∃ x p, E = .Name x p /\ b7j names sc i x = true := b5u (f := fun x p => b7j names sc i x) h
theorem inv_gv {f : String} (h : isE names sc (.gv f) E = true) : ∃ x p, E = .Name x p /\ a1e sc f x = true := b5u (f := fun x p => a1e sc f x) h
theorem b8w {op : Operator} {a b : CE} (h : isE names sc (.bin op a b) E = true) : ∃ l o r p, E = .BinOp l o r p /\ (op == o && isE names sc a l && isE names sc b r) = true := c7d (f := fun l o r p => op == o && isE names sc a l && isE names sc b r) h
theorem c7s {a : CE} (h : isE names sc (.neg a) E = true) : ∃ x p, E = .UnaryOp .USub x p /\ isE names sc a x = true := pNeg_t (f := fun x p => isE names sc a x) h
theorem b4f {a : CE} (h : isE names sc (.not a) E = true) : ∃ x p, E = .UnaryOp .Not x p /\ isE names sc a x = true := pNot_t (f := fun x p => isE names sc a x) h
theorem a4d {l : List CE} (h : isE names sc (.and l) E = true) : ∃ vs p, E = .BoolOp .And vs p /\ isEs names sc l vs = true := pAnd_t (f := fun vs p => isEs names sc l vs) h
theorem a9m {l : List CE} (h : isE names sc (.or l) E = true) : ∃ vs p, E = .BoolOp .Or vs p /\ isEs names sc l vs = true := pOr_t (f := fun vs p => isEs names sc l vs) h
theorem b8x {op : CmpOp} {a b : CE} (h : isE names sc (.cmp op a b) E = true) : ∃ l o r p, E = .Compare l [o] [r] p /\ (op == o && isE names sc a l && isE names sc b r && !behindInMarks o r) = true := pCmp_t (f := fun l o r p => op == o && isE names sc a l && isE names sc b r && !behindInMarks o r) h
theorem c3h {op₁ op₂ : CmpOp} {a b c : CE} (h : isE names sc (.cmp2 op₁ op₂ a b c) E = true) : ∃ l o o' r r' p, E = .Compare l [o, o'] [r, r'] p /\ (op₁ == o && op₂ == o' && isE names sc a l && isE names sc b r && isE names sc c r' && !behindInMarks o r && !behindInMarks o' r') = true := c7k (f := fun l o o' r r' p => op₁ == o && op₂ == o' && isE names sc a l && isE names sc b r && isE names sc c r' && !behindInMarks o r && !behindInMarks o' r') h
theorem c7t {c a b : CE} (h : isE names sc (.ite c a b) E = true) : ∃ t x y p, E = .IfExp t x y p /\ (isE names sc c t && isE names sc a x && isE names sc b y) = true := b8p (f := fun t x y p => isE names sc c t && isE names sc a x && isE names sc b y) h
theorem c7u {l : List CE} (h : isE names sc (.tup l) E = true) : ∃ vs k p, E = .Tuple vs k p /\ isEs names sc l vs = true := b8r (f := fun vs k p => isEs names sc l vs) h
theorem b8y {l : List CE} (h : isE names sc (.lst l) E = true) : ∃ vs p, E = .List vs p /\ isEs names sc l vs = true := c2w (f := fun vs p => isEs names sc l vs) h
theorem b5z (h : isE names sc .dct0 E = true) : ∃ p, E = .Dict [] [] p /\ true = true := c7l (f := fun p => true) h
theorem c7v {a i : CE} (h : isE names sc (.sub a i) E = true) : ∃ v s p, E = .Subscript v s p /\ (isE names sc a v && isE names sc i s) = true := c7e (f := fun v s p => isE names sc a v && isE names sc i s) h
theorem b8z {a : CE} {lo hi : Option CE} (h : isE names sc (.slice a lo hi) E = true) : ∃ v l u sp p, E = .Subscript v (.Slice l u none sp) p /\ (isE names sc a v && isEo names sc lo l && isEo names sc hi u) = true := c3d (f := fun v l u sp p => isE names sc a v && isEo names sc lo l && isEo names sc hi u) h
theorem a7t {f : String} {l : List CE} (h : isE names sc (.call f l) E = true) : ∃ x px args pos, E = .Call (.Name x px) args [] pos /\ (a1e sc f x && isEs names sc l args && decide (l.length < 15)) = true := b8v (f := fun x px args pos => a1e sc f x && isEs names sc l args && decide (l.length < 15)) h
theorem a3c {f : String} {l : List CE} (h : isE names sc (.prim f l) E = true) : ∃ x px args pos, E = .Call (.Name x px) args [] pos /\ (a1e sc f x && isEs names sc l args && decide (l.length < 15)) = true := b8v (f := fun x px args pos => a1e sc f x && isEs names sc l args && decide (l.length < 15)) h
theorem b0k {a : CE} {c : String} (h : isE names sc (.isi a c) E = true) : ∃ x px v y py pos, E = .Call (.Name x px) [v, .Name y py] [] pos /\ (a1e sc "isinstance" x && isE names sc a v && a1e sc c y) = true := pIsi_t (f := fun x px v y py pos => a1e sc "isinstance" x && isE names sc a v && a1e sc c y) h
theorem b0l {a : CE} {m : String} {l : List CE} (h : isE names sc (.meth a m l) E = true) : ∃ o n ap args pos, E = .Call (.Attribute o n ap) args [] pos /\ (isE names sc a o && n == Str.ofString m && isEs names sc l args && decide (l.length < 15) && ap.endLine == pos.line) = true := c7m (f := fun o n ap args pos => isE names sc a o && n == Str.ofString m && isEs names sc l args && decide (l.length < 15) && ap.endLine == pos.line) h
theorem c7w {X B C : Bool} (h : (X && B && C) = true) : B = true := (Bool.and_eq_true_iff.mp (Bool.and_eq_true_iff.mp h).1).2
theorem inv_comp {elt iter : CE} {kk : Nat} {one : Bool} {cond : Option CE} (h : isE names sc (.comp elt kk one iter cond) E = true) :
    (∃ el x px it ifs csc pos, one = true /\ E = .ListComp el [⟨.Name x px, it, ifs, 0⟩] csc pos /\ (a2b csc && isE names sc iter it && (csc.names.all fun y => y.2 != .cell && (y.2 != .local || csc.names.lookup y.1 == some .local)) && (kk == 1 && csc.names.lookup x == some .local && isE (names ++ [x]) csc elt el && isEc (names ++ [x]) csc cond ifs) && (csc.names.all fun y => (y.2 != .free || (sc.names.lookup y.1 == some .cell || sc.names.lookup y.1 == some .free)) && (y.2 != .local || ([x]).contains y.1 || !names.contains y.1))) = true) ∨
    (∃ el ts a b it ifs csc pos, one = false /\ E = .ListComp el [⟨.Tuple ts a b, it, ifs, 0⟩] csc pos /\ (a2b csc && isE names sc iter it && (csc.names.all fun y => y.2 != .cell && (y.2 != .local || csc.names.lookup y.1 == some .local)) && (ts.length == kk && (a0d ts).length == kk && (a0d ts).all (fun x => csc.names.lookup x == some .local) && decide (a0d ts).Nodup && isE (names ++ a0d ts) csc elt el && isEc (names ++ a0d ts) csc cond ifs) && (csc.names.all fun y => (y.2 != .free || (sc.names.lookup y.1 == some .cell || sc.names.lookup y.1 == some .free)) && (y.2 != .local || (a0d ts).contains y.1 || !names.contains y.1))) = true) := by
  have h := pLC_t (E := E) h
  refine c2p h fun el tg it ifs csc pos e h => ?_
  have hB := c7w h
  cases one with
  | true => revert e h; apply a1r hB; intro x px _; exact fun e h => .inl ⟨el, x, px, it, ifs, csc, pos, rfl, e, h⟩
  | false => revert e h; apply a5v hB; intro ts a b _; exact fun e h => .inr ⟨el, ts, a, b, it, ifs, csc, pos, rfl, e, h⟩
theorem b2b {Es : List Expr} (h : isEc names sc none Es = true) : Es = [] /\ true = true := by
  cases Es with
  | nil => exact ⟨rfl, h⟩
  | cons _ _ => exact ff h
theorem b9a {e : CE} {Es : List Expr} (h : isEc names sc (some e) Es = true) : ∃ x, Es = [x] /\ isE names sc e x = true := by
  cases Es with
  | nil => exact ff h
  | cons x xs => cases xs with
    | nil => exact ⟨x, rfl, h⟩
    | cons _ _ => exact ff h
theorem a0p {Es : List Expr} (h : isEs names sc [] Es = true) : Es = [] /\ true = true := by
  cases Es with
  | nil => exact ⟨rfl, h⟩
  | cons _ _ => exact ff h
theorem a0g {e : CE} {es : List CE} {Es : List Expr} (h : isEs names sc (e :: es) Es = true) : ∃ x xs, Es = x :: xs /\ (isE names sc e x && isEs names sc es xs) = true := by
  cases Es with
  | nil => exact ff h
  | cons x xs => exact ⟨x, xs, rfl, h⟩
theorem b2c {Eo : Option Expr} (h : isEo names sc none Eo = true) : Eo = none /\ true = true := by
  cases Eo with
  | none => exact ⟨rfl, h⟩
  | some _ => exact ff h
theorem b2d {e : CE} {Eo : Option Expr} (h : isEo names sc (some e) Eo = true) : ∃ x, Eo = some x /\ isE names sc e x = true := by
  cases Eo with
  | none => exact ff h
  | some x => exact ⟨x, rfl, h⟩
theorem b6a {Ss : List Stmt} (h : isSs names sc [] Ss = true) : Ss = [] /\ true = true := by
  cases Ss with
  | nil => exact ⟨rfl, h⟩
  | cons _ _ => exact ff h
theorem a1s {e : CS} {es : List CS} {Es : List Stmt} (h : isSs names sc (e :: es) Es = true) : ∃ x xs, Es = x :: xs /\ (isS names sc e x && isSs names sc es xs) = true := by
  cases Es with
  | nil => exact ff h
  | cons x xs => exact ⟨x, xs, rfl, h⟩
theorem a8f {i : Nat} {e : CE} (h : isS names sc (.asg i e) S = true) : ∃ x px v pos, S = .Assign [.Name x px] v pos /\ (a1h names sc i x && isE names sc e v) = true := pAsg_t (f := fun x px v pos => a1h names sc i x && isE names sc e v) h
theorem c3i {l : List Nat} {e : CE} (h : isS names sc (.asgT l e) S = true) : ∃ ts k p v pos, S = .Assign [.Tuple ts k p] v pos /\ (a0v names sc l ts && isE names sc e v && decide (l.Nodup)) = true := c7n (f := fun ts k p v pos => a0v names sc l ts && isE names sc e v && decide (l.Nodup)) h
theorem c3j {a i e : CE} (h : isS names sc (.asgS a i e) S = true) : ∃ o k p v pos, S = .Assign [.Subscript o k p] v pos /\ (isE names sc a o && isE names sc i k && isE names sc e v) = true := c7o (f := fun o k p v pos => isE names sc a o && isE names sc i k && isE names sc e v) h
theorem c6h {e : CE} (h : isS names sc (.ex e) S = true) : ∃ v pos, S = .Expr v pos /\ isE names sc e v = true := c3c (f := fun v pos => isE names sc e v) h
theorem b9b {c : CE} {s t : List CS} (h : isS names sc (.ite c s t) S = true) : ∃ e b o pos, S = .If e b o pos /\ (isE names sc c e && isSs names sc s b && isSs names sc t o) = true := onIf_t (f := fun e b o pos => isE names sc c e && isSs names sc s b && isSs names sc t o) h
theorem c3k {i : Nat} {e : CE} {b : List CS} (h : isS names sc (.for1 i e b) S = true) : ∃ x px it bd pos, S = .For (.Name x px) it bd [] pos /\ (a1h names sc i x && isE names sc e it && isSs names sc b bd) = true := c7p (f := fun x px it bd pos => a1h names sc i x && isE names sc e it && isSs names sc b bd) h
theorem b4g {e : CE} (h : isS names sc (.ret e) S = true) : ∃ v pos, S = .Return (some v) pos /\ isE names sc e v = true := pRet_t (f := fun v pos => isE names sc e v) h
theorem b9c {c m : String} (h : isS names sc (.raise c m) S = true) : ∃ x px t a b cp pos, S = .Raise (some (.Call (.Name x px) [.Constant (.str t) a b] [] cp)) none pos /\ (a1e sc c x && t == Str.ofString m) = true := c3e (f := fun x px t a b cp pos => a1e sc c x && t == Str.ofString m) h
theorem c7x {b h : List CS} {c : String} {i : Nat} (hh : isS names sc (.tryx b c i h) S = true) : ∃ bd x px n hb hp pos, S = .Try bd [.ExceptHandler (some (.Name x px)) (some n) hb hp] [] [] pos /\ (isSs names sc b bd && a1e sc c x && (a1h names sc i n && sc.names.lookup n == some .local) && isSs names sc h hb) = true := pTry_t (f := fun bd x px n hb hp pos => isSs names sc b bd && a1e sc c x && (a1h names sc i n && sc.names.lookup n == some .local) && isSs names sc h hb) hh
noncomputable def ixOf : CE -> Nat
  | .int _ => 19
  | .bool _ => 19
  | .none => 19
  | .str _ => 19
  | .var _ => 23
  | .gv _ => 23
  | .bin _ _ _ => 2
  | .neg _ => 3
  | .not _ => 3
  | .and _ => 0
  | .or _ => 0
  | .cmp _ _ _ => 15
  | .cmp2 _ _ _ _ _ => 15
  | .ite _ _ _ => 5
  | .tup _ => 25
  | .lst _ => 24
  | .dct0 => 6
  | .dct1 _ _ => 6
  | .sub _ _ => 21
  | .slice _ _ _ => 21
  | .call _ _ => 16
  | .callv _ _ => 16
  | .prim _ _ => 16
  | .isi _ _ => 16
  | .meth _ _ _ => 16
  | .comp _ _ _ _ _ => 8
  | .lam _ _ => 100
theorem c3l {e : CE} (h : isE names sc e E = true) : E.ctorIdx = ixOf e := by
  cases e with
  | int a => exact a5u (E := E) h
  | bool a => exact a5u (E := E) h
  | none => exact a5u (E := E) h
  | str a => exact a5u (E := E) h
  | var a => exact b5t (E := E) h
  | gv a => exact b5t (E := E) h
  | bin a b c => exact c7c (E := E) h
  | neg a => exact c6f (E := E) h
  | not a => exact c6f (E := E) h
  | and a => exact b5w (E := E) h
  | or a => exact b5w (E := E) h
  | cmp a b c => exact a8d (E := E) h
  | cmp2 a b c d e => exact a8d (E := E) h
  | ite a b c => exact b8o (E := E) h
  | tup a => exact b8q (E := E) h
  | lst a => exact c2v (E := E) h
  | dct0 => exact b5x (E := E) h
  | dct1 a b => exact b5x (E := E) h
  | sub a b => exact b8s (E := E) h
  | slice a b c => exact b8s (E := E) h
  | call a b => exact a5w (E := E) h
  | callv a b => exact a5w (E := E) h
  | prim a b => exact a5w (E := E) h
  | isi a b => exact a5w (E := E) h
  | meth a b c => exact a5w (E := E) h
  | comp a b c d e => exact c3a (E := E) h
  | lam a b => exact ff h
theorem ix_no (e : CE) : [22, 7, 26, 9, 10].contains (ixOf e) = false := by cases e <;> rfl
theorem b2e {e : CE} (h : isE names sc e E = true) (hn : [22, 7, 26, 9, 10].contains E.ctorIdx = true) {P : Prop} : P := by
  rw [c3l h, ix_no] at hn
  exact ff hn
end
end Mine
end
section
open PySem PyProof.Rows
namespace Mine
noncomputable def LO (items : List Value) (n : Nat) : Obj := { cls := .type "list", data := .seq items.toArray n }
noncomputable def TO (items : List Value) (n : Nat) : Obj := { cls := .type "tuple", data := .seq items.toArray n }
noncomputable def DO (es : List DictEntry) (n : Nat) : Obj := { cls := .type "dict", data := .dict es.toArray n }
noncomputable def tkHash (ks : List Int) : Int := reduceHash (Builtin.Tuple.tupleHashOf (ks.map hashInt))
set_option tactic.hygienic true in
mutual
inductive DRel (gl : Str -> Option Value) (h : Heap) (Λ : Addr -> Prop) : Value -> D -> Prop
  | none : DRel gl h Λ .none .none
  | bool (b : Bool) : DRel gl h Λ (.bool b) (.bool b)
  | int (i : Int) (t : Tok) : DRel gl h Λ (.int i t) (.int i)
  | str (s : Str) (t : Tok) : DRel gl h Λ (.str s t) (.str s)
  | tup {a : Addr} {vs : List Value} {n : Nat} {l : List D} : h.get? a = some (TO vs n) -> DRels gl h Λ vs l -> DRel gl h Λ (.ref a) (.tup l)
  | lst {a : Addr} {vs : List Value} {n : Nat} {l : List D} : h.get? a = some (LO vs n) -> ¬ Λ a -> DRels gl h Λ vs l -> DRel gl h Λ (.ref a) (.lst l)
  | dI {a : Addr} {es : List DictEntry} {n : Nat} {l : List (Int × D)} : h.get? a = some (DO es n) -> ¬ Λ a -> ERelI gl h Λ es l -> (l.map (·.1)).Nodup /\ a ≠ sysModules -> DRel gl h Λ (.ref a) (.dI l)
  | dT {a : Addr} {es : List DictEntry} {n : Nat} {l : List (List Int × D)} : h.get? a = some (DO es n) -> ¬ Λ a -> ERelT gl h Λ es l -> (l.map (·.1)).Nodup /\ a ≠ sysModules -> DRel gl h Λ (.ref a) (.dT l)
  | fn {f : String} {v : Value} : gl (Str.ofString f) = some v -> DRel gl h Λ v (.fn f)
inductive DRels (gl : Str -> Option Value) (h : Heap) (Λ : Addr -> Prop) : List Value -> List D -> Prop
  | nil : DRels gl h Λ [] []
  | cons {v : Value} {x : D} {vs : List Value} {l : List D} : DRel gl h Λ v x -> DRels gl h Λ vs l -> DRels gl h Λ (v :: vs) (x :: l)
inductive ERelI (gl : Str -> Option Value) (h : Heap) (Λ : Addr -> Prop) : List DictEntry -> List (Int × D) -> Prop
  | nil : ERelI gl h Λ [] []
  | cons {k : Int} {t : Tok} {v : Value} {x : D} {es : List DictEntry} {l : List (Int × D)} : DRel gl h Λ v x -> ERelI gl h Λ es l -> ERelI gl h Λ (⟨hashInt k, .int k t, v⟩ :: es) ((k, x) :: l)
inductive ERelT (gl : Str -> Option Value) (h : Heap) (Λ : Addr -> Prop) : List DictEntry -> List (List Int × D) -> Prop
  | nil : ERelT gl h Λ [] []
  | cons {ks : List Int} {a : Addr} {vs : List Value} {n : Nat} {v : Value} {x : D} {es : List DictEntry} {l : List (List Int × D)} :
      h.get? a = some (TO vs n) -> IntsAre vs ks -> DRel gl h Λ v x -> ERelT gl h Λ es l -> ERelT gl h Λ (⟨tkHash ks, .ref a, v⟩ :: es) ((ks, x) :: l)
end
noncomputable def a6s (o : Obj) : Prop := (∃ vs n, o = LO vs n) ∨ ∃ es n, o = DO es n
theorem b0m {vs : List Value} {n : Nat} : a6s (LO vs n) := .inl ⟨_, _, rfl⟩
theorem a5f {es : List DictEntry} {n : Nat} : a6s (DO es n) := .inr ⟨_, _, rfl⟩
structure Keep (Λ Λ' : Addr -> Prop) (h h' : Heap) : Prop where
  tups : ∀ a vs n, h.get? a = some (TO vs n) -> h'.get? a = some (TO vs n)
  objs : ∀ a o, ¬ Λ a -> a6s o -> h.get? a = some o -> h'.get? a = some o
  lam : ∀ a o, ¬ Λ a -> a6s o -> h.get? a = some o -> ¬ Λ' a
theorem Keep.refl {Λ : Addr -> Prop} {h : Heap} : Keep Λ Λ h h := ⟨fun ζ ζ ζ e => e, fun ζ ζ ζ ζ e => e, fun ζ ζ n ζ ζ => n⟩
theorem Keep.trans {Λ Λ' Λ'' : Addr -> Prop} {h h' h'' : Heap} (x : Keep Λ Λ' h h') (y : Keep Λ' Λ'' h' h'') : Keep Λ Λ'' h h'' :=
  ⟨fun a vs n e => y.tups a vs n (x.tups a vs n e), fun a o n c e => y.objs a o (x.lam a o n c e) c (x.objs a o n c e), fun a o n c e => y.lam a o (x.lam a o n c e) c (x.objs a o n c e)⟩
theorem Keep.weak {Λ Λ' : Addr -> Prop} {h : Heap} (w : ∀ a, Λ' a -> Λ a) : Keep Λ Λ' h h := ⟨fun ζ ζ ζ e => e, fun ζ ζ ζ ζ e => e, fun a ζ n ζ ζ hl => n (w a hl)⟩
theorem Keep.of_keeps {Λ : Addr -> Prop} {h h' : Heap} (k : ∀ a o, h.get? a = some o -> h'.get? a = some o) : Keep Λ Λ h h' :=
  ⟨fun a vs n e => k a _ e, fun a o ζ ζ e => k a o e, fun ζ ζ n ζ ζ => n⟩
section
variable {gl : Str -> Option Value} {Λ Λ' : Addr -> Prop} {h h' : Heap}
theorem DRel.keep (K : Keep Λ Λ' h h') {v : Value} {x : D} (r : DRel gl h Λ v x) : DRel gl h' Λ' v x :=
  DRel.rec (motive_1 := fun v x ζ => DRel gl h' Λ' v x) (motive_2 := fun vs l ζ => DRels gl h' Λ' vs l) (motive_3 := fun es l ζ => ERelI gl h' Λ' es l) (motive_4 := fun es l ζ => ERelT gl h' Λ' es l)
    .none .bool .int .str (fun e ζ ih => .tup (K.tups _ _ _ e) ih) (fun e n ζ ih => .lst (K.objs _ _ n b0m e) (K.lam _ _ n b0m e) ih) (fun e n ζ d ih => .dI (K.objs _ _ n a5f e) (K.lam _ _ n a5f e) ih d)
    (fun e n ζ d ih => .dT (K.objs _ _ n a5f e) (K.lam _ _ n a5f e) ih d) .fn .nil (fun ζ ζ a b => .cons a b) .nil (fun ζ ζ a b => .cons a b) .nil (fun e i ζ ζ a b => .cons (K.tups _ _ _ e) i a b) r
theorem DRels.keep (K : Keep Λ Λ' h h') {vs : List Value} {l : List D} (r : DRels gl h Λ vs l) : DRels gl h' Λ' vs l :=
  DRels.rec (motive_1 := fun v x ζ => DRel gl h' Λ' v x) (motive_2 := fun vs l ζ => DRels gl h' Λ' vs l) (motive_3 := fun es l ζ => ERelI gl h' Λ' es l) (motive_4 := fun es l ζ => ERelT gl h' Λ' es l)
    .none .bool .int .str (fun e ζ ih => .tup (K.tups _ _ _ e) ih) (fun e n ζ ih => .lst (K.objs _ _ n b0m e) (K.lam _ _ n b0m e) ih) (fun e n ζ d ih => .dI (K.objs _ _ n a5f e) (K.lam _ _ n a5f e) ih d)
    (fun e n ζ d ih => .dT (K.objs _ _ n a5f e) (K.lam _ _ n a5f e) ih d) .fn .nil (fun ζ ζ a b => .cons a b) .nil (fun ζ ζ a b => .cons a b) .nil (fun e i ζ ζ a b => .cons (K.tups _ _ _ e) i a b) r
theorem ERelI.keep (K : Keep Λ Λ' h h') {es : List DictEntry} {l : List (Int × D)} (r : ERelI gl h Λ es l) : ERelI gl h' Λ' es l :=
  ERelI.rec (motive_1 := fun v x ζ => DRel gl h' Λ' v x) (motive_2 := fun vs l ζ => DRels gl h' Λ' vs l) (motive_3 := fun es l ζ => ERelI gl h' Λ' es l) (motive_4 := fun es l ζ => ERelT gl h' Λ' es l)
    .none .bool .int .str (fun e ζ ih => .tup (K.tups _ _ _ e) ih) (fun e n ζ ih => .lst (K.objs _ _ n b0m e) (K.lam _ _ n b0m e) ih) (fun e n ζ d ih => .dI (K.objs _ _ n a5f e) (K.lam _ _ n a5f e) ih d)
    (fun e n ζ d ih => .dT (K.objs _ _ n a5f e) (K.lam _ _ n a5f e) ih d) .fn .nil (fun ζ ζ a b => .cons a b) .nil (fun ζ ζ a b => .cons a b) .nil (fun e i ζ ζ a b => .cons (K.tups _ _ _ e) i a b) r
theorem ERelT.keep (K : Keep Λ Λ' h h') {es : List DictEntry} {l : List (List Int × D)} (r : ERelT gl h Λ es l) : ERelT gl h' Λ' es l :=
  ERelT.rec (motive_1 := fun v x ζ => DRel gl h' Λ' v x) (motive_2 := fun vs l ζ => DRels gl h' Λ' vs l) (motive_3 := fun es l ζ => ERelI gl h' Λ' es l) (motive_4 := fun es l ζ => ERelT gl h' Λ' es l)
    .none .bool .int .str (fun e ζ ih => .tup (K.tups _ _ _ e) ih) (fun e n ζ ih => .lst (K.objs _ _ n b0m e) (K.lam _ _ n b0m e) ih) (fun e n ζ d ih => .dI (K.objs _ _ n a5f e) (K.lam _ _ n a5f e) ih d)
    (fun e n ζ d ih => .dT (K.objs _ _ n a5f e) (K.lam _ _ n a5f e) ih d) .fn .nil (fun ζ ζ a b => .cons a b) .nil (fun ζ ζ a b => .cons a b) .nil (fun e i ζ ζ a b => .cons (K.tups _ _ _ e) i a b) r
theorem DRel.intI {v : Value} {i : Int} (r : DRel gl h Λ v (.int i)) : ∃ t, v = .int i t := by cases r; exact ⟨_, rfl⟩
theorem DRel.noneI {v : Value} (r : DRel gl h Λ v .none) : v = .none := by cases r; rfl
theorem DRel.boolI {v : Value} {b : Bool} (r : DRel gl h Λ v (.bool b)) : v = .bool b := by cases r; rfl
theorem DRel.lstI {v : Value} {l : List D} (r : DRel gl h Λ v (.lst l)) : ∃ a vs n, v = .ref a /\ h.get? a = some (LO vs n) /\ ¬ Λ a /\ DRels gl h Λ vs l := by cases r with | lst e n r => exact ⟨_, _, _, rfl, e, n, r⟩
theorem DRel.dII {v : Value} {l : List (Int × D)} (r : DRel gl h Λ v (.dI l)) : ∃ a es n, v = .ref a /\ h.get? a = some (DO es n) /\ ERelI gl h Λ es l /\ (l.map (·.1)).Nodup /\ a ≠ sysModules := by cases r with | dI e n r d => exact ⟨_, _, _, rfl, e, r, d⟩
noncomputable def nnD : D -> Bool
  | .none | .fn _ => false
  | _ => true
theorem DRel.nn {v : Value} {x : D} (r : DRel gl h Λ v x) (hx : nnD x = true) : v ≠ .none := by
  cases r with
  | none => exact ff hx
  | fn _ => exact ff hx
  | _ => exact nofun
theorem DRels.ind {M : List Value -> List D -> Prop} (h0 : M [] []) (h1 : ∀ {v x vs l}, DRel gl h Λ v x -> DRels gl h Λ vs l -> M vs l -> M (v :: vs) (x :: l)) {vs : List Value} {l : List D} (r : DRels gl h Λ vs l) : M vs l := by
  induction l generalizing vs with
  | nil => cases r; exact h0
  | cons x l ih => cases r with | cons a b => exact h1 a b (ih b)
theorem DRels.length {vs : List Value} {l : List D} (r : DRels gl h Λ vs l) : vs.length = l.length := DRels.ind (M := fun vs l => vs.length = l.length) rfl (fun ζ ζ ih => congrArg Nat.succ ih) r
theorem DRels.get {vs : List Value} {l : List D} {i : Nat} {x : D} (r : DRels gl h Λ vs l) : l[i]? = some x -> ∃ v, vs[i]? = some v /\ DRel gl h Λ v x :=
  DRels.ind (M := fun vs l => ∀ i, l[i]? = some x -> ∃ v, vs[i]? = some v /\ DRel gl h Λ v x) (fun i e => by exact dNS e)
    (fun {v} {y} {vs} {l} a _ ih i e => match i, e with
      | 0, e => ⟨v, rfl, Option.some.inj (e : some y = some x) ▸ a⟩
      | i + 1, e => ih i e) r i
theorem DRels.append {vs vs' : List Value} {l l' : List D} (r : DRels gl h Λ vs l) (r' : DRels gl h Λ vs' l') : DRels gl h Λ (vs ++ vs') (l ++ l') :=
  DRels.ind (M := fun vs l => DRels gl h Λ (vs ++ vs') (l ++ l')) r' (fun a ζ ih => .cons a ih) r
theorem DRels.ints {vs : List Value} {ns : List Int} (r : IntsAre vs ns) : DRels gl h Λ vs (ns.map D.int) := by
  induction r with
  | nil => exact .nil
  | cons n t _ ih => exact .cons (.int n t) ih
end
end Mine
end
section
open PySem PyProof.Rows
namespace Mine
theorem a4t {vs vs' : List Value} {n n' : Nat} (e : some (TO vs n) = some (LO vs' n')) : False := by
  have := congrArg Obj.cls (Option.some.inj e); simp [TO, LO] at this
theorem b6b {vs : List Value} {es : List DictEntry} {n n' : Nat} (e : some (TO vs n) = some (DO es n')) : False := by
  have := congrArg Obj.cls (Option.some.inj e); simp [TO, DO] at this
theorem TO_inj {vs vs' : List Value} {n n' : Nat} (e : some (TO vs n) = some (TO vs' n')) : vs = vs' := by
  have := congrArg Obj.data (Option.some.inj e); simp [TO] at this; exact this.1
theorem LO_inj {vs vs' : List Value} {n n' : Nat} (e : some (LO vs n) = some (LO vs' n')) : vs = vs' := by
  have := congrArg Obj.data (Option.some.inj e); simp [LO] at this; exact this.1
noncomputable def Un (Λ Φ : Addr -> Prop) (a : Addr) : Prop := Λ a ∨ Φ a
set_option tactic.hygienic true in
mutual
inductive VRel (gl : Str -> Option Value) (h : Heap) (Λ Φ : Addr -> Prop) (ad : List Addr) : Value -> V -> Prop
  | d {v : Value} {x : D} : DRel gl h (Un Λ Φ) v x -> VRel gl h Λ Φ ad v (.d x)
  | a {v : Value} {x : D} : DRel gl h Λ v x -> VRel gl h Λ Φ ad v (.a x)
  | r {a : Addr} {i : Nat} : ad[i]? = some a -> VRel gl h Λ Φ ad (.ref a) (.r i)
  | t {a : Addr} {vs : List Value} {n : Nat} {l : List V} : h.get? a = some (TO vs n) -> VRels gl h Λ Φ ad vs l -> VRel gl h Λ Φ ad (.ref a) (.t l)
inductive VRels (gl : Str -> Option Value) (h : Heap) (Λ Φ : Addr -> Prop) (ad : List Addr) : List Value -> List V -> Prop
  | nil : VRels gl h Λ Φ ad [] []
  | cons {v : Value} {x : V} {vs : List Value} {l : List V} : VRel gl h Λ Φ ad v x -> VRels gl h Λ Φ ad vs l -> VRels gl h Λ Φ ad (v :: vs) (x :: l)
end
section
variable {gl : Str -> Option Value} {Λ Λ' Φ : Addr -> Prop} {h h' : Heap} {ad ad' : List Addr}
theorem Keep.un (K : Keep Λ Λ' h h') : Keep (Un Λ Φ) (Un Λ' Φ) h h' where
  tups := K.tups
  objs := fun a o n c e => K.objs a o (fun l => n (.inl l)) c e
  lam := fun a o n c e l => l.elim (fun l' => K.lam a o (fun z => n (.inl z)) c e l') fun l' => n (.inr l')
theorem VRel.keep (K : Keep Λ Λ' h h') (P : ∀ (i : Nat) (a : Addr), ad[i]? = some a -> ad'[i]? = some a) {v : Value} {x : V} (r : VRel gl h Λ Φ ad v x) : VRel gl h' Λ' Φ ad' v x :=
  VRel.rec (motive_1 := fun v x ζ => VRel gl h' Λ' Φ ad' v x) (motive_2 := fun vs l ζ => VRels gl h' Λ' Φ ad' vs l) (fun r => .d (r.keep K.un)) (fun r => .a (r.keep K)) (fun e => .r (P _ _ e)) (fun e ζ ih => .t (K.tups _ _ _ e) ih) .nil (fun ζ ζ a b => .cons a b) r
theorem VRels.keep (K : Keep Λ Λ' h h') (P : ∀ (i : Nat) (a : Addr), ad[i]? = some a -> ad'[i]? = some a) {vs : List Value} {l : List V} (r : VRels gl h Λ Φ ad vs l) : VRels gl h' Λ' Φ ad' vs l :=
  VRels.rec (motive_1 := fun v x ζ => VRel gl h' Λ' Φ ad' v x) (motive_2 := fun vs l ζ => VRels gl h' Λ' Φ ad' vs l) (fun r => .d (r.keep K.un)) (fun r => .a (r.keep K)) (fun e => .r (P _ _ e)) (fun e ζ ih => .t (K.tups _ _ _ e) ih) .nil (fun ζ ζ a b => .cons a b) r
theorem VRels.ind {M : List Value -> List V -> Prop} (h0 : M [] []) (h1 : ∀ {v x vs l}, VRel gl h Λ Φ ad v x -> VRels gl h Λ Φ ad vs l -> M vs l -> M (v :: vs) (x :: l)) {vs : List Value} {l : List V} (r : VRels gl h Λ Φ ad vs l) : M vs l := by
  induction l generalizing vs with
  | nil => cases r; exact h0
  | cons x l ih => cases r with | cons a b => exact h1 a b (ih b)
theorem VRels.length {vs : List Value} {l : List V} (r : VRels gl h Λ Φ ad vs l) : vs.length = l.length := VRels.ind (M := fun vs l => vs.length = l.length) rfl (fun ζ ζ ih => congrArg Nat.succ ih) r
end
noncomputable def ORel (gl : Str -> Option Value) (h : Heap) (Λ Φ : Addr -> Prop) (ad : List Addr) (a : Addr) : O -> Prop
  | .lst l => ∃ vs n, h.get? a = some (LO vs n) /\ DRels gl h (Un Λ Φ) vs l
  | .dI l => ∃ es n, h.get? a = some (DO es n) /\ ERelI gl h (Un Λ Φ) es l /\ (l.map (·.1)).Nodup /\ a ≠ sysModules
  | .dT l => ∃ es n, h.get? a = some (DO es n) /\ ERelT gl h (Un Λ Φ) es l /\ (l.map (·.1)).Nodup /\ a ≠ sysModules
  | .lstV l => ∃ vs n, h.get? a = some (LO vs n) /\ VRels gl h Λ Φ ad vs l
  | .dead => True
structure Cx where
  env : Env
  hB : Heap
  A : Around
  os : OsState
  gens : Array GenState
  Φ : Addr -> Prop
noncomputable def a2w (σ : List O) (ad : List Addr) (a : Addr) : Prop := ∃ (i : Nat) (o : O), ad[i]? = some a /\ σ[i]? = some o /\ o ≠ .dead
structure Step (exc : Addr -> Prop) (σ : List O) (ad : List Addr) (Λ : Addr -> Prop) (h : Heap) (σ' : List O) (ad' : List Addr) (Λ' : Addr -> Prop) (h' : Heap) : Prop where
  only : ∀ a o, ¬ a2w σ ad a -> ¬ exc a -> h.get? a = some o -> h'.get? a = some o
  dom : ∀ a o, h.get? a = some o -> ∃ o', h'.get? a = some o'
  lamO : ∀ a, Λ' a -> Λ a ∨ h.get? a = none
  pre : ∀ (i : Nat) (a : Addr), ad[i]? = some a -> ad'[i]? = some a
  liv : ∀ a, a2w σ' ad' a -> a2w σ ad a ∨ h.get? a = none
  adO : ∀ a, a ∈ ad' -> a ∈ ad ∨ h.get? a = none
  res : ∀ a o, h.get? a = some o -> Λ a -> ¬ a2w σ ad a -> Λ' a
theorem a2j {h h' : Heap} (d : ∀ a o, h.get? a = some o -> ∃ o', h'.get? a = some o') {a : Addr} (e : h'.get? a = none) : h.get? a = none := by
  cases q : h.get? a with
  | none => rfl
  | some o => obtain ⟨o', e'⟩ := d a o q; exact dGN e e'
theorem Step.refl {exc : Addr -> Prop} {σ : List O} {ad : List Addr} {Λ : Addr -> Prop} {h : Heap} : Step exc σ ad Λ h σ ad Λ h :=
  ⟨fun ζ ζ ζ ζ e => e, fun ζ o e => ⟨o, e⟩, fun ζ x => .inl x, fun ζ ζ e => e, fun ζ x => .inl x, fun ζ x => .inl x, fun ζ ζ ζ l ζ => l⟩
theorem Step.trans {exc : Addr -> Prop} {σ σ' σ'' : List O} {ad ad' ad'' : List Addr} {Λ Λ' Λ'' : Addr -> Prop} {h h' h'' : Heap}
    (x : Step exc σ ad Λ h σ' ad' Λ' h') (y : Step exc σ' ad' Λ' h' σ'' ad'' Λ'' h'') : Step exc σ ad Λ h σ'' ad'' Λ'' h'' :=
  ⟨fun a o n ne e => y.only a o (fun l => (x.liv a l).elim n fun l' => by exact dGN l' e) ne (x.only a o n ne e),
   fun a o e => by obtain ⟨o', e'⟩ := x.dom a o e; exact y.dom a o' e',
   fun a l => (y.lamO a l).elim (fun l' => x.lamO a l') fun l' => .inr (a2j x.dom l'),
   fun i a e => y.pre i a (x.pre i a e),
   fun a l => (y.liv a l).elim (fun l' => x.liv a l') fun l' => .inr (a2j x.dom l'),
   fun a l => (y.adO a l).elim (fun l' => x.adO a l') fun l' => .inr (a2j x.dom l'),
   fun a o e l nl => by
     obtain ⟨o', e'⟩ := x.dom a o e
     exact y.res a o' e' (x.res a o e l nl) fun l' => (x.liv a l').elim nl fun l'' => by exact dGN l'' e⟩
theorem Step.weak {exc exc' : Addr -> Prop} {σ σ' : List O} {ad ad' : List Addr} {Λ Λ' : Addr -> Prop} {h h' : Heap} (w : ∀ a, exc a -> exc' a)
    (x : Step exc σ ad Λ h σ' ad' Λ' h') : Step exc' σ ad Λ h σ' ad' Λ' h' :=
  ⟨fun a o n ne e => x.only a o n (fun z => ne (w a z)) e, x.dom, x.lamO, x.pre, x.liv, x.adO, x.res⟩
structure St (gl : Str -> Option Value) (X : Cx) (names : List Str) (ρ : List (Option V)) (σ : List O) (Λ : Addr -> Prop) (ad : List Addr) (s : Shared) : Prop where
  keep : ∀ b o, X.hB.get? b = some o -> s.heap.get? b = some o
  os : s.os = X.os
  gens : s.gens = X.gens
  new : ∀ a, Λ a -> X.hB.get? a = none
  lt : ∀ a, Λ a -> ∃ o, s.heap.get? a = some o
  phi : ∀ a, X.Φ a -> ∃ o, X.hB.get? a = some o
  nd : ad.Nodup
  len : ad.length = σ.length
  adl : ∀ a ∈ ad, ∃ o, s.heap.get? a = some o
  objs : ∀ (i : Nat) (a : Addr) (o : O), ad[i]? = some a -> σ[i]? = some o -> o ≠ .dead -> Λ a /\ ORel gl s.heap Λ X.Φ ad a o
  locL : Λ X.env.locals
  locA : X.env.locals ∉ ad
  cellN : ∀ x c, X.env.kindOf x = some .cell -> X.env.cells.lookup x = some c -> X.hB.get? c = none
  rl : ρ.length = names.length
  vars : ∃ (m cm : Str -> Option Value), s.heap.Ns X.env.locals m /\ (∀ n c, X.env.cells.lookup n = some c -> s.heap.IsCell c (cm n)) /\
    ∀ (x : Str) (i : Nat) (val : V), vis names x = some i -> ρ[i]? = some (some val) ->
      (X.env.kindOf x = some .local -> ∃ v, m x = some v /\ VRel gl s.heap Λ X.Φ ad v val) /\
      (X.env.kindOf x = some .cell ∨ X.env.kindOf x = some .free -> ∃ c v, X.env.cells.lookup x = some c /\ cm x = some v /\ VRel gl s.heap Λ X.Φ ad v val)
structure Kept (L : Addr) (s s' : Shared) : Prop where
  obj : ∀ a o, a ≠ L -> s.heap.get? a = some o -> s'.heap.get? a = some o
  ns : ∀ m, s.heap.Ns L m -> s'.heap.Ns L m
  os : s'.os = s.os
  gens : s'.gens = s.gens
theorem Kept.of_keeps {L : Addr} {s s' : Shared} (k : ∀ a o, s.heap.get? a = some o -> s'.heap.get? a = some o) (ho : s'.os = s.os) (hg : s'.gens = s.gens) : Kept L s s' :=
  ⟨fun a o ζ e => k a o e, fun ζ n => n.keeps k, ho, hg⟩
theorem Kept.refl {L : Addr} {s : Shared} : Kept L s s := .of_keeps (fun ζ ζ e => e) rfl rfl
theorem Kept.toks {L : Addr} {s : Shared} {t : Nat} : Kept L s { s with toks := t } := .of_keeps (fun ζ ζ e => e) rfl rfl
theorem Kept.trans {L : Addr} {s s' s'' : Shared} (x : Kept L s s') (y : Kept L s' s'') : Kept L s s'' :=
  ⟨fun a o n e => y.obj a o n (x.obj a o n e), fun m n => y.ns m (x.ns m n), y.os.trans x.os, y.gens.trans x.gens⟩
theorem b2f {h : Heap} {L : Addr} {m : Str -> Option Value} (n : h.Ns L m) {vs : List Value} {k : Nat} : h.get? L ≠ some (TO vs k) := by
  obtain ⟨o, es, ep, e, d, _⟩ := n
  intro e'; rw [e] at e'; cases e'; cases d
theorem b4h {h : Heap} {c : Addr} {v : Option Value} (n : h.IsCell c v) {vs : List Value} {k : Nat} : h.get? c ≠ some (TO vs k) := by
  obtain ⟨o, e, d⟩ := n
  intro e'; rw [e] at e'; cases e'; cases d
theorem a3l {h : Heap} {c L : Addr} {v : Option Value} {m : Str -> Option Value} (n : h.IsCell c v) (n' : h.Ns L m) : c ≠ L := by
  rintro rfl
  obtain ⟨o, e, d⟩ := n
  obtain ⟨o', es, ep, e', d', _⟩ := n'
  rw [e] at e'; cases e'; rw [d] at d'; cases d'
section
variable {gl : Str -> Option Value} {X : Cx} {names : List Str} {ρ ρ' : List (Option V)} {σ σ' : List O} {Λ Λ' : Addr -> Prop} {ad ad' : List Addr} {s s' : Shared} {h' : Heap} {tk : Nat}
theorem St.live_lam (S : St gl X names ρ σ Λ ad s) {a : Addr} (l : a2w σ ad a) : Λ a := by
  obtain ⟨i, o, e1, e2, e3⟩ := l
  exact (S.objs i a o e1 e2 e3).1
theorem a3g (S : St gl X names ρ σ Λ ad s) {a : Addr} {vs : List Value} {n : Nat} (e : s.heap.get? a = some (TO vs n)) : ¬ a2w σ ad a := by
  rintro ⟨i, o, e1, e2, e3⟩
  have := (S.objs i a o e1 e2 e3).2
  cases o with
  | lst l => obtain ⟨vs', n', e', _⟩ := this; rw [e] at e'; exact a4t e'
  | dI l => obtain ⟨vs', n', e', _⟩ := this; rw [e] at e'; exact b6b e'
  | dT l => obtain ⟨vs', n', e', _⟩ := this; rw [e] at e'; exact b6b e'
  | lstV l => obtain ⟨vs', n', e', _⟩ := this; rw [e] at e'; exact a4t e'
  | dead => exact e3 rfl
noncomputable def a1c (env : Env) : Addr -> Prop := fun a => a = env.locals
theorem b2g (S : St gl X names ρ σ Λ ad s) {a : Addr} {vs : List Value} {n : Nat} (e : s.heap.get? a = some (TO vs n)) : a ≠ X.env.locals := by
  rintro rfl
  refine xEEA S.vars fun m cm hn ζ => ?_
  exact b2f hn e
theorem Step.keep (S : St gl X names ρ σ Λ ad s) (P : Step (a1c X.env) σ ad Λ s.heap σ' ad' Λ' h') : Keep Λ Λ' s.heap h' where
  tups := fun a vs n e => P.only a _ (a3g S e) (b2g S e) e
  objs := fun a o nl ζ e => P.only a o (fun l => nl (S.live_lam l)) (fun x => nl (x ▸ S.locL)) e
  lam := fun a o nl ζ e l => (P.lamO a l).elim nl fun l' => by exact dGN l' e
noncomputable def a2n (env : Env) (a : Addr) : Prop := a = env.locals ∨ ∃ x, env.cells.lookup x = some a
theorem Step.keepS (S : St gl X names ρ σ Λ ad s) (P : Step (a2n X.env) σ ad Λ s.heap σ' ad' Λ' h') : Keep Λ Λ' s.heap h' where
  tups := fun a vs n e => P.only a _ (a3g S e) (by
    rintro (h | ⟨x, h⟩)
    . exact b2g S e h
    . refine a1f S.vars fun m cm ζ hc ζ => ?_
      exact b4h (hc x a h) e) e
  objs := fun a o nl nc e => P.only a o (fun l => nl (S.live_lam l)) (by
    rintro (h | ⟨x, h⟩)
    . exact nl (h ▸ S.locL)
    . refine a1f S.vars fun m cm ζ hc ζ => ?_
      obtain ⟨o', e', d'⟩ := hc x a h
      rw [e] at e'; cases e'
      rcases nc with ⟨_, _, rfl⟩ | ⟨_, _, rfl⟩ <;> cases d') e
  lam := fun a o nl ζ e l => (P.lamO a l).elim nl fun l' => by exact dGN l' e
theorem Step.own {σ' : List O} (P : Step (a1c X.env) σ ad Λ s.heap σ' ad' Λ' h') : Step (a2n X.env) σ ad Λ s.heap σ' ad' Λ' h' := P.weak fun ζ h => .inl h
theorem VRels.step (S : St gl X names ρ σ Λ ad s) (P : Step (a1c X.env) σ ad Λ s.heap σ' ad' Λ' h') {v : List Value} {x : List V} (r : VRels gl s.heap Λ X.Φ ad v x) : VRels gl h' Λ' X.Φ ad' v x :=
  r.keep (P.keep S) P.pre
theorem VRel.step (S : St gl X names ρ σ Λ ad s) (P : Step (a1c X.env) σ ad Λ s.heap σ' ad' Λ' h') {v : Value} {x : V} (r : VRel gl s.heap Λ X.Φ ad v x) : VRel gl h' Λ' X.Φ ad' v x :=
  r.keep (P.keep S) P.pre
theorem Step.of_kept (S : St gl X names ρ σ Λ ad s) (k : Kept X.env.locals s s') : Step (a1c X.env) σ ad Λ s.heap σ ad Λ s'.heap where
  only := fun a o ζ ne e => k.obj a o ne e
  dom := fun a o e => by
    by_cases h : a = X.env.locals
    . subst h
      refine xEEA S.vars fun m cm hn ζ => ?_
      obtain ⟨o', _, _, e', _⟩ := k.ns m hn
      exact ⟨o', e'⟩
    . exact ⟨o, k.obj a o h e⟩
  lamO := fun ζ l => .inl l
  pre := fun ζ ζ e => e
  liv := fun ζ l => .inl l
  adO := fun ζ l => .inl l
  res := fun ζ ζ ζ l ζ => l
theorem ORel.keep {Φ : Addr -> Prop} {h h' : Heap} {a : Addr} {o : O} (K : Keep Λ Λ' h h') (P : ∀ (i : Nat) (a : Addr), ad[i]? = some a -> ad'[i]? = some a) (ka : ∀ o, h.get? a = some o -> h'.get? a = some o) (x : ORel gl h Λ Φ ad a o) : ORel gl h' Λ' Φ ad' a o := by
  cases o with
  | lst l => obtain ⟨vs, n, e, r⟩ := x; exact ⟨vs, n, ka _ e, r.keep K.un⟩
  | dI l => obtain ⟨vs, n, e, r, d⟩ := x; exact ⟨vs, n, ka _ e, r.keep K.un, d⟩
  | dT l => obtain ⟨vs, n, e, r, d⟩ := x; exact ⟨vs, n, ka _ e, r.keep K.un, d⟩
  | lstV l => obtain ⟨vs, n, e, r⟩ := x; exact ⟨vs, n, ka _ e, r.keep K P⟩
  | dead => trivial
theorem b4i (S : St gl X names ρ σ Λ ad s) {b : Addr} {o : Obj} (e : X.hB.get? b = some o) : b ≠ X.env.locals := by
  rintro rfl
  rw [S.new _ S.locL] at e; exact dNS e
theorem a0j {ad : List Addr} {i : Nat} {a : Addr} (e : ad[i]? = some a) : a ∈ ad := List.mem_of_getElem? e
theorem St.kept (S : St gl X names ρ σ Λ ad s) (k : Kept X.env.locals s s') : St gl X names ρ σ Λ ad s' where
  keep := fun b o e => k.obj b o (b4i S e) (S.keep b o e)
  os := k.os.trans S.os
  gens := k.gens.trans S.gens
  new := S.new
  lt := fun a l => by obtain ⟨o, e⟩ := S.lt a l; exact (Step.of_kept S k).dom a o e
  phi := S.phi
  nd := S.nd
  len := S.len
  adl := fun a ha => by obtain ⟨o, e⟩ := S.adl a ha; exact (Step.of_kept S k).dom a o e
  objs := fun i a o e1 e2 e3 => ⟨(S.objs i a o e1 e2 e3).1, (S.objs i a o e1 e2 e3).2.keep ((Step.of_kept S k).keep S) (fun ζ ζ e => e) fun o e => k.obj a o (fun h => S.locA (h ▸ a0j e1)) e⟩
  locL := S.locL
  locA := S.locA
  cellN := S.cellN
  rl := S.rl
  vars := by
    have K := (Step.of_kept S k).keep S
    refine a1f S.vars fun m cm n c v => ?_
    refine ⟨m, cm, k.ns m n, fun x c' e => ?_, fun x i val e1 e2 => ⟨fun hk => ?_, fun hk => ?_⟩⟩
    . have hc := c x c' e
      have := a3l hc n
      obtain ⟨o, ho, hd⟩ := hc
      exact ⟨o, k.obj c' o this ho, hd⟩
    . refine xEA ((v x i val e1 e2).1 hk) fun v' h1 h2 => ?_
      exact ⟨v', h1, h2.keep K fun ζ ζ e => e⟩
    . refine a1f ((v x i val e1 e2).2 hk) fun c' v' h1 h2 h3 => ?_
      exact ⟨c', v', h1, h2, h3.keep K fun ζ ζ e => e⟩
end
noncomputable def Room (A : Around) (k : Nat) : Prop := A.handled = none /\ A.depth + k < recursionLimit /\ A.units + 5 * k + 300 < cLine
structure KindsOk (env : Env) (sc : Scope) : Prop where
  kind : env.scope.kind = .function
  glob : env.globals = mainGlobals
  blt : env.builtins = builtinsNs
  loc : ∀ x, sc.names.lookup x = some .local -> env.kindOf x = some .local
  cel : ∀ x, sc.names.lookup x = some .cell ∨ sc.names.lookup x = some .free -> env.kindOf x = some .cell ∨ env.kindOf x = some .free
  glo : ∀ x, sc.names.lookup x = some .globalImplicit -> env.kindOf x = some .globalImplicit
  apart : (∃ x, sc.names.lookup x = some .cell) -> env.cells.Pairwise fun x y => x.2 ≠ y.2
  celE : ∀ x, env.kindOf x = some .cell ∨ env.kindOf x = some .free -> ∃ c, env.cells.lookup x = some c
  celS : ∀ x, sc.names.lookup x = some .cell -> env.kindOf x = some .cell
inductive Post (gl : Str -> Option Value) (X : Cx) (names : List Str) (ρ : List (Option V)) (σ : List O) (Λ : Addr -> Prop) (ad : List Addr) (s : Shared) (Q : V -> List O -> Prop) (v : Value) (s' : Shared) : Prop
  | mk (val : V) (σ' : List O) (Λ' : Addr -> Prop) (ad' : List Addr) (h1 : St gl X names ρ σ' Λ' ad' s') (h2 : Step (a1c X.env) σ ad Λ s.heap σ' ad' Λ' s'.heap) (h3 : VRel gl s'.heap Λ' X.Φ ad' v val) (h4 : Q val σ') : Post gl X names ρ σ Λ ad s Q v s'
inductive PostC (gl : Str -> Option Value) (X : Cx) (names : List Str) (ρ : List (Option V)) (σ : List O) (Λ : Addr -> Prop) (ad : List Addr) (s : Shared) (Q : Bool -> List O -> Prop) (b : Bool) (s' : Shared) : Prop
  | mk (σ' : List O) (Λ' : Addr -> Prop) (ad' : List Addr) (h1 : St gl X names ρ σ' Λ' ad' s') (h2 : Step (a1c X.env) σ ad Λ s.heap σ' ad' Λ' s'.heap) (h3 : Q b σ') : PostC gl X names ρ σ Λ ad s Q b s'
structure World0 where
  p : Program
  q : Program
  w : World
  loose : List Str
  mean : ExcName -> Option Value
  gl : Str -> Option Value
  mb : Str -> Option Value
noncomputable def World0.ok (W : World0) (h : Heap) : Prop := Top W.q W.loose W.mean W.gl W.mb h
theorem World0.keeps (W : World0) {h h' : Heap} (x : W.ok h) (k : ∀ b o, h.get? b = some o -> h'.get? b = some o) : W.ok h' := Top.keeps x k
structure WOk (W : World0) : Prop where
  blt : ∀ x ∈ bltNames, W.gl (Str.ofString x) = none
noncomputable def HasF (W : World0) (f : String) (cf : CF) : Prop := ∃ d ∈ recsOf W.q, d.name = Str.ofString f /\ isF cf d = true
noncomputable def TE (W : World0) (k : Nat) (e : CE) (ρ : List (Option V)) (σ : List O) (Q : V -> List O -> Prop) : Prop :=
  ∀ names sc E, isE names sc e E = true -> ∀ X : Cx, KindsOk X.env sc -> Room X.A k -> W.ok X.hB -> ∀ Λ ad s, St W.gl X names ρ σ Λ ad s ->
    wpAny (model W.p W.w) X.A (eval E X.env) (Post W.gl X names ρ σ Λ ad s Q) (fun ζ ζ => False) s
noncomputable def TEs (W : World0) (k : Nat) (es : List CE) (ρ : List (Option V)) (σ : List O) (Q : List V -> List O -> Prop) : Prop :=
  match es with
  | [] => Q [] σ
  | e :: es => TE W k e ρ σ fun v σ' => TEs W k es ρ σ' fun vs σ'' => Q (v :: vs) σ''
noncomputable def TC (W : World0) (k : Nat) (e : CE) (ρ : List (Option V)) (σ : List O) (Q : Bool -> List O -> Prop) : Prop :=
  ∀ names sc E, isE names sc e E = true -> ∀ X : Cx, KindsOk X.env sc -> Room X.A k -> W.ok X.hB -> ∀ Λ ad s, St W.gl X names ρ σ Λ ad s ->
    wpAny (model W.p W.w) X.A (isTrue E X.env (eval E X.env)) (PostC W.gl X names ρ σ Λ ad s Q) (fun ζ ζ => False) s
inductive Out where
  | next
  | ret (v : V)
inductive FRel (gl : Str -> Option Value) (h : Heap) (Λ Φ : Addr -> Prop) (ad : List Addr) : Flow -> Out -> Prop
  | next : FRel gl h Λ Φ ad .next .next
  | ret {v : Value} {x : V} : VRel gl h Λ Φ ad v x -> FRel gl h Λ Φ ad (.ret v) (.ret x)
inductive PostS (gl : Str -> Option Value) (X : Cx) (names : List Str) (σ : List O) (Λ : Addr -> Prop) (ad : List Addr) (s : Shared) (Q : Out -> List (Option V) -> List O -> Prop) (f : Flow) (s' : Shared) : Prop
  | mk (out : Out) (ρ' : List (Option V)) (σ' : List O) (Λ' : Addr -> Prop) (ad' : List Addr) (h1 : St gl X names ρ' σ' Λ' ad' s') (h2 : Step (a2n X.env) σ ad Λ s.heap σ' ad' Λ' s'.heap) (h3 : FRel gl s'.heap Λ' X.Φ ad' f out) (h4 : Q out ρ' σ') : PostS gl X names σ Λ ad s Q f s'
noncomputable def TS (W : World0) (k : Nat) (ss : List CS) (ρ : List (Option V)) (σ : List O) (Q : Out -> List (Option V) -> List O -> Prop) : Prop :=
  ∀ names sc S, isSs names sc ss S = true -> ∀ X : Cx, KindsOk X.env sc -> Room X.A k -> W.ok X.hB -> ∀ Λ ad s, St W.gl X names ρ σ Λ ad s ->
    wpAny (model W.p W.w) X.A (execs S X.env) (PostS W.gl X names σ Λ ad s Q) (fun ζ ζ => False) s
end Mine
end
section
open PySem PyProof.Rows
namespace Mine
section
variable {gl : Str -> Option Value} {X : Cx} {names : List Str} {ρ ρ' : List (Option V)} {σ σ' σ'' : List O} {Λ Λ' Λ'' : Addr -> Prop} {ad ad' ad'' : List Addr} {s s' s'' : Shared} {h' : Heap} {tk : Nat}
variable {W : World0} {k : Nat} {Q : V -> List O -> Prop}
theorem Post.pure (S : St gl X names ρ σ Λ ad s) (kk : Kept X.env.locals s s') {v : Value} {x : V} (r : VRel gl s'.heap Λ X.Φ ad v x) (q : Q x σ) : Post gl X names ρ σ Λ ad s Q v s' :=
  ⟨x, σ, Λ, ad, S.kept kk, .of_kept S kk, r, q⟩
theorem Post.here (S : St gl X names ρ σ Λ ad s) {v : Value} {x : V} {t : Nat} (r : VRel gl s.heap Λ X.Φ ad v x) (q : Q x σ) : Post gl X names ρ σ Λ ad s Q v { s with toks := t } :=
  Post.pure (s' := { s with toks := t }) S .toks r q
theorem Post.trans {Q : V -> List O -> Prop} {v : Value} (P : Step (a1c X.env) σ ad Λ s.heap σ' ad' Λ' s'.heap) (x : Post gl X names ρ σ' Λ' ad' s' Q v s'') : Post gl X names ρ σ Λ ad s Q v s'' := by
  obtain ⟨val, σ₂, Λ₂, ad₂, S₂, P₂, r, q⟩ := x
  exact ⟨val, σ₂, Λ₂, ad₂, S₂, P.trans P₂, r, q⟩
theorem Post.mono {Q Q' : V -> List O -> Prop} {v : Value} (x : Post gl X names ρ σ Λ ad s Q v s') (h : ∀ a b, Q a b -> Q' a b) : Post gl X names ρ σ Λ ad s Q' v s' := by
  obtain ⟨val, σ₂, Λ₂, ad₂, S₂, P₂, r, q⟩ := x
  exact ⟨val, σ₂, Λ₂, ad₂, S₂, P₂, r, h _ _ q⟩
theorem TE.mono {e : CE} {Q Q' : V -> List O -> Prop} (t : TE W k e ρ σ Q) (h : ∀ v σ, Q v σ -> Q' v σ) : TE W k e ρ σ Q' :=
  fun names sc E he X hk hr hw Λ ad s S => wpAny_mono (t names sc E he X hk hr hw Λ ad s S) (fun v s' x => x.mono h) fun ζ ζ f => f
theorem TC.mono {e : CE} {Q Q' : Bool -> List O -> Prop} (t : TC W k e ρ σ Q) (h : ∀ v σ, Q v σ -> Q' v σ) : TC W k e ρ σ Q' :=
  fun names sc E he X hk hr hw Λ ad s S => wpAny_mono (t names sc E he X hk hr hw Λ ad s S) (fun v s' ⟨a, b, c, d, e, f⟩ => ⟨a, b, c, d, e, h _ _ f⟩) fun ζ ζ f => f
theorem TE.int {i : Int} (q : Q (.d (.int i)) σ) : TE W k (.int i) ρ σ Q := fun names sc E he X hk hr hw Λ ad s S => by
  replace he := c7q he; obtain ⟨_, _, _, rfl, he⟩ := he
  . obtain rfl := beq_iff_eq.mp he
    exact wpAny_Constant_int (Post.here S (.d (.int _ _)) q)
theorem TE.bool {b : Bool} (q : Q (.d (.bool b)) σ) : TE W k (.bool b) ρ σ Q := fun names sc E he X hk hr hw Λ ad s S => by
  replace he := c3f he; obtain ⟨_, _, _, rfl, he⟩ := he
  . obtain rfl := beq_iff_eq.mp he
    erw [eval_Constant]
    exact wpAny_pure (Post.here (t := s.toks) S (.d (.bool _)) q)
theorem TE.none (q : Q (.d .none) σ) : TE W k .none ρ σ Q := fun names sc E he X hk hr hw Λ ad s S => by
  replace he := c3g he; obtain ⟨_, _, rfl, he⟩ := he
  . erw [eval_Constant]
    exact wpAny_pure (Post.here (t := s.toks) S (.d .none) q)
theorem TE.str {x : String} (q : Q (.d (.str (Str.ofString x))) σ) : TE W k (.str x) ρ σ Q := fun names sc E he X hk hr hw Λ ad s S => by
  replace he := c7r he; obtain ⟨_, _, _, rfl, he⟩ := he
  . obtain rfl := beq_iff_eq.mp he
    erw [eval_Constant]
    exact wpAny_mkText (Post.here S (.d (.str _ _)) q)
theorem St.load (S : St gl X names ρ σ Λ ad s) {sc : Scope} (hk : KindsOk X.env sc) {x : Str} {i : Nat} {val : V} (hl : b1s (sc.names.lookup x) = true) (hv : vis names x = some i)
    (e : ρ[i]? = some (some val)) {M : Model} {A : Around} {E : Value -> Shared -> Prop} {Q : Value -> Shared -> Prop} (hcd : (x == ("__classdict__" : Str)) = false) (q : ∀ v, VRel gl s.heap Λ X.Φ ad v val -> Q v s) : wpAny M A (loadName X.env x) Q E s := by
  refine a1f S.vars fun m cm hn hc hvars => ?_
  obtain ⟨h1, h2⟩ := hvars x i val hv e
  cases hlk : sc.names.lookup x with
  | none => rw [hlk] at hl; exact dFT hl
  | some kd =>
    rw [hlk] at hl
    have cellcase : (X.env.kindOf x = some .cell ∨ X.env.kindOf x = some .free) -> wpAny M A (loadName X.env x) Q E s := fun hor => by
      refine a1f (h2 hor) fun c v e1 e2 r => ?_
      have hcell := hc x c e1
      rw [e2] at hcell
      rcases hor with hor | hor
      . exact wpAny_loadName_cell hk.kind hor e1 hcell (q v r)
      . exact wpAny_loadName_free hk.kind hor e1 hcell (q v r) hcd
    cases kd with
    | «local» =>
      refine xEA (h1 (hk.loc x hlk)) fun v e1 r => ?_
      exact wpAny_loadName_local hk.kind (hk.loc x hlk) hn e1 (q v r)
    | cell => exact cellcase (hk.cel x (.inl hlk))
    | free => exact cellcase (hk.cel x (.inr hlk))
    | globalExplicit => exact dFT hl
    | globalImplicit => exact dFT hl
theorem TE.var {i : Nat} {val : V} (e : ρ[i]? = some (some val)) (q : Q val σ) : TE W k (.var i) ρ σ Q := fun names sc E he X hk hr hw Λ ad s S => by
  replace he := a8e he; obtain ⟨x, pos, rfl, he⟩ := he
  . skip
    simp only [b7j, Bool.and_eq_true, Bool.not_eq_true', beq_iff_eq] at he
    obtain ⟨⟨⟨h1, h2⟩, h3⟩, h4⟩ := he
    exact wpAny_Name (S.load hk h1 h2 e h4 fun v r => Post.here (t := s.toks) S r q) h3
theorem TE.two {a b : CE} {names : List Str} {sc : Scope} {l r : Expr} {Q : V -> List O -> Prop} {X : Cx} {Λ : Addr -> Prop} {ad : List Addr} {s : Shared} {F : Value -> Value -> Sem Value}
    (ta : TE W k a ρ σ fun va σ₁ => TE W k b ρ σ₁ fun vb σ₂ => ∀ names X Λ ad s x y, Room X.A k -> W.ok X.hB -> St W.gl X names ρ σ₂ Λ ad s -> VRel W.gl s.heap Λ X.Φ ad x va -> VRel W.gl s.heap Λ X.Φ ad y vb ->
      wpAny (model W.p W.w) X.A (F x y) (Post W.gl X names ρ σ₂ Λ ad s Q) (fun ζ ζ => False) s)
    (ha : isE names sc a l = true) (hb : isE names sc b r = true) (hk : KindsOk X.env sc) (hr : Room X.A k) (hw : W.ok X.hB) (S : St W.gl X names ρ σ Λ ad s) :
    wpAny (model W.p W.w) X.A (eval l X.env) (fun x s₁ => wpAny (model W.p W.w) X.A (eval r X.env) (fun y s₂ => wpAny (model W.p W.w) X.A (F x y) (Post W.gl X names ρ σ Λ ad s Q) (fun ζ ζ => False) s₂) (fun ζ ζ => False) s₁) (fun ζ ζ => False) s := by
  refine wpAny_mono (ta names sc l ha X hk hr hw Λ ad s S) (fun x s₁ h₁ => ?_) fun ζ ζ f => f
  obtain ⟨va, σ₁, Λ₁, ad₁, S₁, P₁, r₁, t₁⟩ := h₁
  refine wpAny_mono (t₁ names sc r hb X hk hr hw Λ₁ ad₁ s₁ S₁) (fun y s₂ h₂ => ?_) fun ζ ζ f => f
  obtain ⟨vb, σ₂, Λ₂, ad₂, S₂, P₂, r₂, t₂⟩ := h₂
  exact wpAny_mono (t₂ names X Λ₂ ad₂ s₂ x y hr hw S₂ (r₁.step S₁ P₂) r₂) (fun v s' p => (p.trans P₂).trans P₁) fun ζ ζ f => f
theorem a0m {names : List Str} {sc : Scope} {e : CE} {E : Expr} (h : isE names sc e E = true) (rest : List Expr) (env : Env) : starEach (E :: rest) env = (false, eval E env) :: starEach rest env := by
  cases E with
  | Starred v p => exact b2e h rfl
  | _ => rfl
inductive PostL (gl : Str -> Option Value) (X : Cx) (names : List Str) (ρ : List (Option V)) (σ : List O) (Λ : Addr -> Prop) (ad : List Addr) (s : Shared) (Q : List V -> List O -> Prop) (vs : List Value) (s' : Shared) : Prop
  | mk (vals : List V) (σ' : List O) (Λ' : Addr -> Prop) (ad' : List Addr) (h1 : St gl X names ρ σ' Λ' ad' s') (h2 : Step (a1c X.env) σ ad Λ s.heap σ' ad' Λ' s'.heap) (h3 : VRels gl s'.heap Λ' X.Φ ad' vs vals) (h4 : Q vals σ') : PostL gl X names ρ σ Λ ad s Q vs s'
theorem TEs.run : ∀ {es : List CE} {σ : List O} {Q : List V -> List O -> Prop} (t : TEs W k es ρ σ Q) {names : List Str} {sc : Scope} {Es : List Expr}, isEs names sc es Es = true ->
    ∀ {X : Cx}, KindsOk X.env sc -> Room X.A k -> W.ok X.hB -> ∀ {Λ : Addr -> Prop} {ad : List Addr} {s : Shared}, St W.gl X names ρ σ Λ ad s -> ∀ pos : Pos,
    wpAny (model W.p W.w) X.A (spliced (backTo pos (starEach Es X.env))) (PostL W.gl X names ρ σ Λ ad s Q) (fun ζ ζ => False) s
  | [], σ, Q, t, names, sc, Es, he, X, hk, hr, hw, Λ, ad, s, S, pos => by
    first | (replace he := a0g he; obtain ⟨_, _, rfl, he⟩ := he) | (replace he := a0p he; obtain ⟨rfl, he⟩ := he)
    . exact args_nil ⟨[], σ, Λ, ad, S, .refl, .nil, t⟩
  | e :: es, σ, Q, t, names, sc, Es, he, X, hk, hr, hw, Λ, ad, s, S, pos => by
    first | (replace he := a0g he; obtain ⟨x, xs, rfl, he⟩ := he) | (replace he := a0p he; obtain ⟨rfl, he⟩ := he)
    . skip
      simp only [Bool.and_eq_true] at he
      refine args_cons (wpAny_mono (t names sc x he.1 X hk hr hw Λ ad s S) (fun v s₁ h₁ => ?_) fun ζ ζ f => f) (a0m he.1 _ _)
      obtain ⟨val, σ₁, Λ₁, ad₁, S₁, P₁, r₁, t₁⟩ := h₁
      refine wpAny_mono (TEs.run t₁ he.2 hk hr hw S₁ pos) (fun vs s₂ h₂ => ?_) fun ζ ζ f => f
      obtain ⟨vals, σ₂, Λ₂, ad₂, S₂, P₂, r₂, q⟩ := h₂
      exact ⟨val :: vals, σ₂, Λ₂, ad₂, S₂, P₁.trans P₂, .cons (r₁.step S₁ P₂) r₂, q⟩
end
end Mine
end
section
open PySem PyProof.Rows PySem.SeqAt
namespace Mine
set_option tactic.hygienic true in
mutual
noncomputable def eqD : D -> D -> Bool
  | .none, .none => true
  | .bool a, .bool b => a == b
  | .bool a, .int b => (if a then 1 else 0) == b
  | .int a, .bool b => a == (if b then 1 else 0)
  | .int a, .int b => a == b
  | .str a, .str b => a == b
  | .tup a, .tup b => eqDs a b
  | .lst a, .lst b => eqDs a b
  | _, _ => false
noncomputable def eqDs : List D -> List D -> Bool
  | [], [] => true
  | x :: xs, y :: ys => eqD x y && eqDs xs ys
  | _, _ => false
end
set_option tactic.hygienic true in
mutual
noncomputable def a0y : D -> Bool
  | .none | .bool _ | .int _ | .str _ => true
  | .tup l | .lst l => a1a l
  | _ => false
noncomputable def a1a : List D -> Bool
  | [] => true
  | x :: xs => a0y x && a1a xs
end
set_option tactic.hygienic true in
mutual
noncomputable def dep : D -> Nat
  | .tup l | .lst l => deps l + 1
  | _ => 0
noncomputable def deps : List D -> Nat
  | [] => 0
  | x :: xs => max (dep x) (deps xs)
end
set_option tactic.hygienic true in
mutual
theorem a5x : ∀ x : D, a0y x = true -> eqD x x = true
  | .none, _ => rfl
  | .bool b, _ => beq_self_eq_true b
  | .int b, _ => beq_self_eq_true b
  | .str b, _ => beq_self_eq_true b
  | .tup l, h => a8g l h
  | .lst l, h => a8g l h
  | .dI l, h => ff h
  | .dT l, h => ff h
  | .fn f, h => ff h
theorem a8g : ∀ l : List D, a1a l = true -> eqDs l l = true
  | [], _ => rfl
  | x :: xs, h => by
    have h := Bool.and_eq_true_iff.mp h
    show (eqD x x && eqDs xs xs) = true
    erw [a5x x h.1, a8g xs h.2]; rfl
end
section
variable {gl : Str -> Option Value} {h : Heap} {Λ Λ' : Addr -> Prop}
theorem c3m {a : Addr} {vs : List Value} {n : Nat} {y : D} (e : h.get? a = some (TO vs n)) (c : DRel gl h Λ' (.ref a) y) (hy : a0y y = true) : ∃ l', y = .tup l' /\ DRels gl h Λ' vs l' := by
  cases c with
  | tup e' r' => rw [e] at e'; obtain rfl := TO_inj e'; exact ⟨_, rfl, r'⟩
  | lst e' _ _ => rw [e] at e'; exact (a4t e').elim
  | dI _ _ _ _ => exact Bool.noConfusion hy
  | dT _ _ _ _ => exact Bool.noConfusion hy
  | fn _ => exact Bool.noConfusion hy
theorem c3n {a : Addr} {vs : List Value} {n : Nat} {y : D} (e : h.get? a = some (LO vs n)) (c : DRel gl h Λ' (.ref a) y) (hy : a0y y = true) : ∃ l', y = .lst l' /\ DRels gl h Λ' vs l' := by
  cases c with
  | tup e' r' => rw [e] at e'; exact (a4t e'.symm).elim
  | lst e' _ r' => rw [e] at e'; obtain rfl := LO_inj e'; exact ⟨_, rfl, r'⟩
  | dI _ _ _ _ => exact Bool.noConfusion hy
  | dT _ _ _ _ => exact Bool.noConfusion hy
  | fn _ => exact Bool.noConfusion hy
theorem DRel.unique {v : Value} {x y : D} (r : DRel gl h Λ v x) (c : DRel gl h Λ' v y) (hx : a0y x = true) (hy : a0y y = true) : x = y := by
  refine DRel.rec (motive_1 := fun v x ζ => ∀ y, DRel gl h Λ' v y -> a0y x = true -> a0y y = true -> x = y) (motive_2 := fun vs l ζ => ∀ l', DRels gl h Λ' vs l' -> a1a l = true -> a1a l' = true -> l = l')
    (motive_3 := fun ζ ζ ζ => True) (motive_4 := fun ζ ζ ζ => True) ?_ ?_ ?_ ?_ ?_ ?_ ?_ ?_ ?_ ?_ ?_ ?_ ?_ ?_ ?_ r y c hx hy
  . intro y c _ hy; cases c with
    | none => rfl
    | fn _ => exact Bool.noConfusion hy
  . intro b y c _ hy; cases c with
    | bool _ => rfl
    | fn _ => exact Bool.noConfusion hy
  . intro i t y c _ hy; cases c with
    | int _ _ => rfl
    | fn _ => exact Bool.noConfusion hy
  . intro i t y c _ hy; cases c with
    | str _ _ => rfl
    | fn _ => exact Bool.noConfusion hy
  . intro a vs n l e _ ih y c hx hy
    obtain ⟨l', rfl, r'⟩ := c3m e c hy
    exact congrArg D.tup (ih l' r' hx hy)
  . intro a vs n l e _ _ ih y c hx hy
    obtain ⟨l', rfl, r'⟩ := c3n e c hy
    exact congrArg D.lst (ih l' r' hx hy)
  . intro a es n l _ _ _ _ _ y _ hx _; exact Bool.noConfusion hx
  . intro a es n l _ _ _ _ _ y _ hx _; exact Bool.noConfusion hx
  . intro f v _ y _ hx _; exact Bool.noConfusion hx
  . intro l' c _ _; cases c; rfl
  . intro v x vs l _ _ ih1 ih2 l' c hx hy
    cases c with
    | cons a' b' =>
      obtain ⟨hx1, hx2⟩ := Bool.and_eq_true_iff.mp hx
      obtain ⟨hy1, hy2⟩ := Bool.and_eq_true_iff.mp hy
      erw [ih1 _ a' hx1 hy1, ih2 _ b' hx2 hy2]
  all_goals (intros; trivial)
end
noncomputable def eqAt (l l' : List D) (j : Nat) : Bool := match l[j]?, l'[j]? with
  | some x, some y => eqD x y
  | _, _ => true
theorem a9n (l : List D) : ∀ l' : List D, eqDs l l' = ((List.range (min l.length l'.length)).all (eqAt l l') && l.length == l'.length) := by
  induction l with
  | nil => intro l'; cases l' <;> rfl
  | cons x xs ih => intro l'; cases l' with
  | nil => rfl
  | cons y ys =>
    show (eqD x y && eqDs xs ys) = _
    erw [ih ys]
    have e : min (x :: xs).length (y :: ys).length = min xs.length ys.length + 1 := by simp [Nat.succ_min_succ]
    erw [e, List.range_succ_eq_map, List.all_cons, List.all_map]
    have e0 : eqAt (x :: xs) (y :: ys) 0 = eqD x y := rfl
    have e1 : (eqAt (x :: xs) (y :: ys) ∘ Nat.succ) = eqAt xs ys := by funext j; simp [eqAt]
    erw [e0, e1]
    simp [Bool.and_assoc]
theorem a0c {h : Heap} {a : Addr} {vs : List Value} {n : Nat} (e : h.get? a = some (LO vs n)) : h.IsList a vs.toArray := ⟨_, e, rfl, n, rfl⟩
theorem a0e {h : Heap} {a : Addr} {vs : List Value} {n : Nat} (e : h.get? a = some (TO vs n)) : h.IsTuple a vs.toArray := ⟨_, e, rfl, n, rfl⟩
theorem c3o {h : Heap} {a : Addr} {vs : List Value} {n : Nat} (e : h.get? a = some (LO vs n)) : h.PlainList a vs.toArray := ⟨n, e⟩
section
variable {gl : Str -> Option Value} {s : Shared} {Λ Λ' : Addr -> Prop}
theorem EqAt.of_rc {A : Around} {v u : Value} {b : Bool} (h : RcAt A s v u b) (hv : ∀ b t, v ≠ .float b t) (hs : v = u -> b = true) : EqAt A s v u b := fun prog w E Q hq => by
  unfold eqBool
  refine wpAny_holding (wpAny_ite_split (fun hab => ?_) (fun ζ => ?_))
  . have e := hs (eq_of_beq hab)
    subst e
    exact wpAny_bind (wpAny_rule (wpAny_pure hq))
  . cases v with
    | float b t => exact absurd rfl (hv b t)
    | _ => exact wpAny_bind (h prog w E _ (wpAny_truthy_bool hq))
theorem DRel.notFloat {v : Value} {x : D} (r : DRel gl s.heap Λ v x) (hx : a0y x = true) (b : UInt64) (t : Tok) : v ≠ .float b t := by
  cases r with
  | fn _ => exact ff hx
  | _ => intro h; cases h
theorem DRel.casesP {h : Heap} {G : Value -> D -> Prop} (g0 : G .none .none) (g1 : ∀ b, G (.bool b) (.bool b)) (g2 : ∀ i t, G (.int i t) (.int i)) (g3 : ∀ i t, G (.str i t) (.str i))
    (g4 : ∀ {a vs n l}, h.get? a = some (TO vs n) -> DRels gl h Λ vs l -> a1a l = true -> G (.ref a) (.tup l)) (g5 : ∀ {a vs n l}, h.get? a = some (LO vs n) -> DRels gl h Λ vs l -> a1a l = true -> G (.ref a) (.lst l))
    {v : Value} {x : D} (r : DRel gl h Λ v x) (hx : a0y x = true) : G v x := by
  cases r with
  | none => exact g0
  | bool b => exact g1 b
  | int i t => exact g2 i t
  | str i t => exact g3 i t
  | tup e r => exact g4 e r hx
  | lst e _ r => exact g5 e r hx
  | _ => exact ff hx
theorem b2h {l : List D} (h : a1a l = true) : ∀ d ∈ l, a0y d = true :=
  List.rec (motive := fun l => a1a l = true -> ∀ d ∈ l, a0y d = true) (fun ζ ζ h => nomatch h) (fun x xs ih h d m => have h := Bool.and_eq_true_iff.mp h; (List.mem_cons.mp m).elim (fun e => e ▸ h.1) (ih h.2 d)) l h
theorem c7y {l : List D} {n : Nat} (h : deps l <= n) : ∀ d ∈ l, dep d <= n :=
  List.rec (motive := fun l => deps l <= n -> ∀ d ∈ l, dep d <= n) (fun ζ ζ h => nomatch h) (fun x xs ih h d m => have h := Nat.max_le.mp h; (List.mem_cons.mp m).elim (fun e => e ▸ h.1) (ih h.2 d)) l h
noncomputable def RcP (gl : Str -> Option Value) (s : Shared) (Λ' : Addr -> Prop) (v : Value) (x : D) : Prop :=
  ∀ {A : Around} {u : Value} {y : D}, A.units + dep x < cLine -> DRel gl s.heap Λ' u y -> a0y x = true -> a0y y = true -> RcAt A s v u (eqD x y)
theorem c6i {vs us : List Value} {l l' : List D} (rx : DRels gl s.heap Λ vs l) (ih : ∀ (j : Nat) {v : Value} {x : D}, vs[j]? = some v -> l[j]? = some x -> RcP gl s Λ' v x) (ry : DRels gl s.heap Λ' us l') {A : Around} (hu : A.units + deps l < cLine) (hx : a1a l = true) (hy : a1a l' = true) (j : Nat) (h1 : j < vs.toArray.size) (h2 : j < us.toArray.size) :
    EqAt A s vs.toArray[j] us.toArray[j] (eqAt l l' j) := by
  have k1 : l[j]? = some (l[j]'(Nat.lt_of_lt_of_eq h1 rx.length)) := List.getElem?_eq_getElem _
  have k2 : l'[j]? = some (l'[j]'(Nat.lt_of_lt_of_eq h2 ry.length)) := List.getElem?_eq_getElem _
  generalize l[j]'(Nat.lt_of_lt_of_eq h1 rx.length) = x at k1
  generalize l'[j]'(Nat.lt_of_lt_of_eq h2 ry.length) = y at k2
  refine xEA (rx.get k1) fun v e1 a => ?_
  refine xEA (ry.get k2) fun u e2 b => ?_
  have p1 := b2h hx x (List.mem_of_getElem? k1)
  have p2 := b2h hy y (List.mem_of_getElem? k2)
  have q1 : vs.toArray[j] = v := Option.some.inj ((List.getElem?_eq_getElem h1).symm.trans e1)
  have q2 : us.toArray[j] = u := Option.some.inj ((List.getElem?_eq_getElem h2).symm.trans e2)
  have q3 : eqAt l l' j = eqD x y := by unfold eqAt; erw [k1, k2]
  erw [q1, q2, q3]
  exact EqAt.of_rc (ih j e1 k1 (Nat.lt_of_le_of_lt (Nat.add_le_add_left (c7y (Nat.le_refl _) x (List.mem_of_getElem? k1)) _) hu) b p1 p2) (a.notFloat p1) fun e => (a.unique (e ▸ b) p1 p2) ▸ a5x x p1
theorem lenA {vs us : List Value} {l l' : List D} (rx : DRels gl s.heap Λ vs l) (ry : DRels gl s.heap Λ' us l') {f : Nat -> Bool} : ((List.range (min vs.toArray.size us.toArray.size)).all f && vs.toArray.size == us.toArray.size) = ((List.range (min l.length l'.length)).all f && l.length == l'.length) := by
  erw [← rx.length, ← ry.length]; rfl
theorem rcT {vs us : List Value} {l l' : List D} {a b : Addr} {n m : Nat} {A : Around} (e : s.heap.get? a = some (TO vs n)) (rx : DRels gl s.heap Λ vs l) (ih : ∀ (j : Nat) {v : Value} {x : D}, vs[j]? = some v -> l[j]? = some x -> RcP gl s Λ' v x) (hu : A.units + (deps l + 1) < cLine) (hx : a1a l = true) (e' : s.heap.get? b = some (TO us m)) (ry : DRels gl s.heap Λ' us l') (hy : a1a l' = true) :
    RcAt A s (.ref a) (.ref b) (eqDs l l') /\ RcNeAt A s (.ref a) (.ref b) (!eqDs l l') := by
  have key := c6i (A := A.in1) rx ih ry (Nat.lt_of_le_of_lt (Nat.le_of_eq (Nat.succ_add _ _)) hu) hx hy
  have hu' := Nat.lt_of_le_of_lt (Nat.le_add_right _ _) hu
  erw [a9n l l', ← lenA rx ry]
  exact ⟨RcAt.tuples (a0e e) (a0e e') hu' key, RcNeAt.tuples (a0e e) (a0e e') hu' key⟩
theorem rcL {vs us : List Value} {l l' : List D} {a b : Addr} {n m : Nat} {A : Around} (e : s.heap.get? a = some (LO vs n)) (rx : DRels gl s.heap Λ vs l) (ih : ∀ (j : Nat) {v : Value} {x : D}, vs[j]? = some v -> l[j]? = some x -> RcP gl s Λ' v x) (hu : A.units + (deps l + 1) < cLine) (hx : a1a l = true) (e' : s.heap.get? b = some (LO us m)) (ry : DRels gl s.heap Λ' us l') (hy : a1a l' = true) :
    RcAt A s (.ref a) (.ref b) (eqDs l l') /\ RcNeAt A s (.ref a) (.ref b) (!eqDs l l') := by
  have key := c6i (A := A.in1) rx ih ry (Nat.lt_of_le_of_lt (Nat.le_of_eq (Nat.succ_add _ _)) hu) hx hy
  have hu' := Nat.lt_of_le_of_lt (Nat.le_add_right _ _) hu
  erw [a9n l l', ← lenA rx ry]
  by_cases hl : vs.toArray.size = us.toArray.size
  . have k1 := RcAt.lists (a0c e) (a0c e') hl hu' key
    have k2 := RcNeAt.lists (a0c e) (a0c e') hl hu' key
    erw [← hl, Nat.min_self, beq_self_eq_true, Bool.and_true]
    exact ⟨k1, k2⟩
  . erw [beq_eq_false_iff_ne.mpr hl, Bool.and_false]
    exact ⟨RcAt.lists_lengths (a0c e) (a0c e') (bne_iff_ne.mpr hl) hu', RcNeAt.lists_lengths (a0c e) (a0c e') (bne_iff_ne.mpr hl) hu'⟩
theorem rcD {v : Value} {x : D} (r : DRel gl s.heap Λ v x) : RcP gl s Λ' v x := by
  refine DRel.rec (motive_1 := fun v x ζ => RcP gl s Λ' v x) (motive_2 := fun vs l ζ => ∀ (j : Nat) {v : Value} {x : D}, vs[j]? = some v -> l[j]? = some x -> RcP gl s Λ' v x) (motive_3 := fun ζ ζ ζ => True) (motive_4 := fun ζ ζ ζ => True) ?_ ?_ ?_ ?_ ?_ ?_ ?_ ?_ ?_ ?_ ?_ ?_ ?_ ?_ ?_ r
  . intro A u y hu c _ hy
    exact c.casesP (G := fun u y => RcAt A s .none u (eqD .none y)) RcAt.none_none RcAt.none_bool RcAt.none_int RcAt.none_str (fun e ζ ζ => RcAt.none_tuple (a0e e) hu) (fun e ζ ζ => RcAt.none_list (a0c e) hu) hy
  . intro b A u y hu c _ hy
    exact c.casesP (G := fun u y => RcAt A s (.bool b) u (eqD (.bool b) y)) (RcAt.bool_none b) (RcAt.bool_bool b) (RcAt.bool_int b) (RcAt.bool_str b) (fun e ζ ζ => RcAt.bool_tuple b (a0e e) hu) (fun e ζ ζ => RcAt.bool_list b (a0c e) hu) hy
  . intro b t A u y hu c _ hy
    exact c.casesP (G := fun u y => RcAt A s (.int b t) u (eqD (.int b) y)) (RcAt.int_none b t) (RcAt.int_bool b t) (RcAt.int_int b t) (RcAt.int_str b t) (fun e ζ ζ => RcAt.int_tuple b t (a0e e) hu) (fun e ζ ζ => RcAt.int_list b t (a0c e) hu) hy
  . intro b t A u y hu c _ hy
    exact c.casesP (G := fun u y => RcAt A s (.str b t) u (eqD (.str b) y)) (RcAt.str_none b t) (RcAt.str_bool b t) (RcAt.str_int b t) (RcAt.str_str b t) (fun e ζ ζ => RcAt.str_tuple b t (a0e e) hu) (fun e ζ ζ => RcAt.str_list b t (a0c e) hu) hy
  . intro a vs n l ex rx ih A u y hu c hx hy
    have hu' := Nat.lt_of_le_of_lt (Nat.le_add_right _ _) hu
    exact c.casesP (G := fun u y => RcAt A s (.ref a) u (eqD (.tup l) y)) (RcAt.tuple_none (a0e ex) hu') (fun b => RcAt.tuple_bool b (a0e ex) hu') (fun i t => RcAt.tuple_int i t (a0e ex) hu') (fun i t => RcAt.tuple_str i t (a0e ex) hu') (fun e r p => (rcT ex rx ih hu hx e r p).1) (fun e ζ ζ => RcAt.tuple_list (a0e ex) (a0c e) hu') hy
  . intro a vs n l ex _ rx ih A u y hu c hx hy
    have hu' := Nat.lt_of_le_of_lt (Nat.le_add_right _ _) hu
    exact c.casesP (G := fun u y => RcAt A s (.ref a) u (eqD (.lst l) y)) (RcAt.list_none (a0c ex) hu') (fun b => RcAt.list_bool b (a0c ex) hu') (fun i t => RcAt.list_int i t (a0c ex) hu') (fun i t => RcAt.list_str i t (a0c ex) hu') (fun e ζ ζ => RcAt.list_tuple (a0c ex) (a0e e) hu') (fun e r p => (rcL ex rx ih hu hx e r p).1) hy
  . exact fun ζ ζ ζ ζ ζ ζ ζ ζ ζ ζ hx ζ => ff hx
  . exact fun ζ ζ ζ ζ ζ ζ ζ ζ ζ ζ hx ζ => ff hx
  . exact fun ζ ζ ζ ζ ζ ζ hx ζ => ff hx
  . exact fun ζ ζ ζ h ζ => nomatch h
  . intro v x vs l _ _ ih1 ih2 j
    cases j with
    | zero => exact fun h1 h2 => Option.some.inj h1 ▸ Option.some.inj h2 ▸ ih1
    | succ j => exact fun h1 h2 => ih2 j h1 h2
  . trivial
  . exact fun ζ ζ ζ ζ => trivial
  . trivial
  . exact fun ζ ζ ζ ζ ζ ζ => trivial
theorem rcI {vs : List Value} {l : List D} (r : DRels gl s.heap Λ vs l) (j : Nat) {v : Value} {x : D} (h1 : vs[j]? = some v) (h2 : l[j]? = some x) : RcP gl s Λ' v x := by
  refine xEA (r.get h2) fun w e a => ?_
  exact Option.some.inj (h1.symm.trans e) ▸ rcD a
theorem rneD {A : Around} {v u : Value} {x y : D} (hu : A.units + dep x < cLine) (rx : DRel gl s.heap Λ v x) (ry : DRel gl s.heap Λ' u y) (hx : a0y x = true) (hy : a0y y = true) : RcNeAt A s v u (!eqD x y) := by
  have hu' := Nat.lt_of_le_of_lt (Nat.le_add_right _ _) hu
  exact rx.casesP (G := fun v x => A.units + dep x < cLine -> RcNeAt A s v u (!eqD x y))
    (fun ζ => ry.casesP (G := fun u y => RcNeAt A s .none u (!eqD .none y)) RcNeAt.none_none RcNeAt.none_bool RcNeAt.none_int RcNeAt.none_str (fun e ζ ζ => RcNeAt.none_tuple (a0e e) hu') (fun e ζ ζ => RcNeAt.none_list (a0c e) hu') hy)
    (fun b ζ => ry.casesP (G := fun u y => RcNeAt A s (.bool b) u (!eqD (.bool b) y)) (RcNeAt.bool_none b) (RcNeAt.bool_bool b) (RcNeAt.bool_int b) (RcNeAt.bool_str b) (fun e ζ ζ => RcNeAt.bool_tuple b (a0e e) hu') (fun e ζ ζ => RcNeAt.bool_list b (a0c e) hu') hy)
    (fun b t ζ => ry.casesP (G := fun u y => RcNeAt A s (.int b t) u (!eqD (.int b) y)) (RcNeAt.int_none b t) (RcNeAt.int_bool b t) (RcNeAt.int_int b t) (RcNeAt.int_str b t) (fun e ζ ζ => RcNeAt.int_tuple b t (a0e e) hu') (fun e ζ ζ => RcNeAt.int_list b t (a0c e) hu') hy)
    (fun b t ζ => ry.casesP (G := fun u y => RcNeAt A s (.str b t) u (!eqD (.str b) y)) (RcNeAt.str_none b t) (RcNeAt.str_bool b t) (RcNeAt.str_int b t) (RcNeAt.str_str b t) (fun e ζ ζ => RcNeAt.str_tuple b t (a0e e) hu') (fun e ζ ζ => RcNeAt.str_list b t (a0c e) hu') hy)
    (fun {a vs n l} ex rx px hu => ry.casesP (G := fun u y => RcNeAt A s (.ref a) u (!eqD (.tup l) y)) (RcNeAt.tuple_none (a0e ex) hu') (fun b => RcNeAt.tuple_bool b (a0e ex) hu') (fun i t => RcNeAt.tuple_int i t (a0e ex) hu') (fun i t => RcNeAt.tuple_str i t (a0e ex) hu') (fun e r p => (rcT ex rx (rcI rx) hu px e r p).2) (fun e ζ ζ => RcNeAt.tuple_list (a0e ex) (a0c e) hu') hy)
    (fun {a vs n l} ex rx px hu => ry.casesP (G := fun u y => RcNeAt A s (.ref a) u (!eqD (.lst l) y)) (RcNeAt.list_none (a0c ex) hu') (fun b => RcNeAt.list_bool b (a0c ex) hu') (fun i t => RcNeAt.list_int i t (a0c ex) hu') (fun i t => RcNeAt.list_str i t (a0c ex) hu') (fun e ζ ζ => RcNeAt.list_tuple (a0c ex) (a0e e) hu') (fun e r p => (rcL ex rx (rcI rx) hu px e r p).2) hy) hx hu
end
end Mine
end
section
open PySem PyProof.Rows PySem.SeqAt
namespace Mine
noncomputable def lk {K α : Type} [DecidableEq K] : List (K × α) -> K -> Option α
  | [], _ => none
  | (k', x) :: l, k => if k = k' then some x else lk l k
noncomputable def noL : Addr -> Prop := fun ζ => False
noncomputable def used (s : Shared) (a : Addr) : Prop := ∃ o, s.heap.get? a = some o
set_option tactic.hygienic true in
mutual
noncomputable def nolist : D -> Bool
  | .none | .bool _ | .int _ | .str _ | .fn _ => true
  | .tup l => nolists l
  | _ => false
noncomputable def nolists : List D -> Bool
  | [] => true
  | x :: xs => nolist x && nolists xs
end
noncomputable def oView : Option O -> Option D
  | some (.lst l) => some (.lst l)
  | some (.dI l) => some (.dI l)
  | some (.dT l) => some (.dT l)
  | _ => none
noncomputable def oLst : Option O -> Option (List D)
  | some (.lst l) => some l
  | _ => none
theorem b9d {o : Option O} {l : List D} (e : oLst o = some l) : o = some (.lst l) := by
  cases o with
  | none => exact cNS e
  | some o => cases o with
    | lst l => exact congrArg (fun l => some (O.lst l)) (a0q e)
    | _ => exact cNS e
noncomputable def oTup : Option (List D) -> Option D
  | some l => some (.tup l)
  | none => none
noncomputable def oCons : Option D -> Option (List D) -> Option (List D)
  | some x, some xs => some (x :: xs)
  | _, _ => none
theorem b9e {o : Option (List D)} {x : D} (e : oTup o = some x) : ∃ l, o = some l /\ x = .tup l := by
  cases o with
  | none => exact cNS e
  | some l => exact ⟨l, rfl, (a0q e).symm⟩
theorem b7l {o : Option D} {p : Option (List D)} {xs : List D} (e : oCons o p = some xs) : ∃ x l, o = some x /\ p = some l /\ xs = x :: l := by
  cases o with
  | none => exact cNS e
  | some x => cases p with
    | none => exact cNS e
    | some l => exact ⟨x, l, rfl, rfl, (a0q e).symm⟩
set_option tactic.hygienic true in
mutual
noncomputable def a0i (σ : List O) : V -> Option D
  | .d x => some x
  | .a x => some x
  | .r i => oView σ[i]?
  | .t l => oTup (b9f σ l)
noncomputable def b9f (σ : List O) : List V -> Option (List D)
  | [] => some []
  | v :: vs => oCons (a0i σ v) (b9f σ vs)
end
noncomputable def lstV (σ : List O) : V -> Option (List D)
  | .d (.lst l) => some l
  | .a (.lst l) => if nolists l then some l else none
  | .r i => oLst σ[i]?
  | _ => none
noncomputable def tupV : V -> Option (List D)
  | .d (.tup l) => some l
  | .a (.tup l) => if nolists l then some l else none
  | _ => none
section
variable {gl : Str -> Option Value} {X : Cx} {names : List Str} {ρ : List (Option V)} {σ : List O} {Λ Λ' Φ : Addr -> Prop} {ad : List Addr} {s : Shared} {h : Heap}
theorem DRel.noL {v : Value} {x : D} (r : DRel gl h Λ v x) : DRel gl h noL v x := r.keep (.weak fun ζ f => f.elim)
theorem DRels.noL {vs : List Value} {l : List D} (r : DRels gl h Λ vs l) : DRels gl h noL vs l := r.keep (.weak fun ζ f => f.elim)
theorem ERelI.noL {es : List DictEntry} {l : List (Int × D)} (r : ERelI gl h Λ es l) : ERelI gl h noL es l := r.keep (.weak fun ζ f => f.elim)
theorem ERelT.noL {es : List DictEntry} {l : List (List Int × D)} (r : ERelT gl h Λ es l) : ERelT gl h noL es l := r.keep (.weak fun ζ f => f.elim)
theorem DRel.nolist {v : Value} {x : D} (r : DRel gl h Λ v x) : Mine.nolist x = true -> DRel gl h Λ' v x :=
  DRel.rec (motive_1 := fun v x ζ => Mine.nolist x = true -> DRel gl h Λ' v x) (motive_2 := fun vs l ζ => Mine.nolists l = true -> DRels gl h Λ' vs l) (motive_3 := fun ζ ζ ζ => True) (motive_4 := fun ζ ζ ζ => True)
    (fun ζ => .none) (fun b ζ => .bool b) (fun i t ζ => .int i t) (fun i t ζ => .str i t) (fun e ζ ih n => .tup e (ih n)) (fun ζ ζ ζ ζ n => ff n) (fun ζ ζ ζ ζ ζ n => ff n) (fun ζ ζ ζ ζ ζ n => ff n) (fun e ζ => .fn e)
    (fun ζ => .nil) (fun ζ ζ a b n => .cons (a (Bool.and_eq_true_iff.mp n).1) (b (Bool.and_eq_true_iff.mp n).2)) trivial (fun ζ ζ ζ ζ => trivial) trivial (fun ζ ζ ζ ζ ζ ζ => trivial) r
theorem DRels.nolists {vs : List Value} {l : List D} (r : DRels gl h Λ vs l) : Mine.nolists l = true -> DRels gl h Λ' vs l :=
  DRels.rec (motive_1 := fun v x ζ => Mine.nolist x = true -> DRel gl h Λ' v x) (motive_2 := fun vs l ζ => Mine.nolists l = true -> DRels gl h Λ' vs l) (motive_3 := fun ζ ζ ζ => True) (motive_4 := fun ζ ζ ζ => True)
    (fun ζ => .none) (fun b ζ => .bool b) (fun i t ζ => .int i t) (fun i t ζ => .str i t) (fun e ζ ih n => .tup e (ih n)) (fun ζ ζ ζ ζ n => ff n) (fun ζ ζ ζ ζ ζ n => ff n) (fun ζ ζ ζ ζ ζ n => ff n) (fun e ζ => .fn e)
    (fun ζ => .nil) (fun ζ ζ a b n => .cons (a (Bool.and_eq_true_iff.mp n).1) (b (Bool.and_eq_true_iff.mp n).2)) trivial (fun ζ ζ ζ ζ => trivial) trivial (fun ζ ζ ζ ζ ζ ζ => trivial) r
theorem b9g {a : Addr} {x : D} (o : Option O) (k : ∀ o', o = some o' -> o' ≠ .dead -> ORel gl h Λ Φ ad a o') (e : oView o = some x) : DRel gl h Mine.noL (.ref a) x := by
  cases o with
  | none => exact cNS e
  | some o => cases o with
    | lst l => obtain ⟨vs, n, h1, h2⟩ := k _ rfl nofun; exact a0q e ▸ .lst h1 (fun f => f) h2.noL
    | dI l => obtain ⟨vs, n, h1, h2, h3⟩ := k _ rfl nofun; exact a0q e ▸ .dI h1 (fun f => f) h2.noL h3
    | dT l => obtain ⟨vs, n, h1, h2, h3⟩ := k _ rfl nofun; exact a0q e ▸ .dT h1 (fun f => f) h2.noL h3
    | _ => exact cNS e
theorem a0r (S : St gl X names ρ σ Λ ad s) {v : Value} {val : V} {x : D} (r : VRel gl s.heap Λ X.Φ ad v val) (e : a0i σ val = some x) : DRel gl s.heap Mine.noL v x := by
  refine VRel.rec (motive_1 := fun v val ζ => ∀ x, a0i σ val = some x -> DRel gl s.heap Mine.noL v x) (motive_2 := fun vs vals ζ => ∀ xs, b9f σ vals = some xs -> DRels gl s.heap Mine.noL vs xs) ?_ ?_ ?_ ?_ ?_ ?_ r x e
  . intro v x r y e; cases Option.some.inj (e : some x = some y); exact r.noL
  . intro v x r y e; cases Option.some.inj (e : some x = some y); exact r.noL
  . intro a i e' x e
    refine b9g (h := s.heap) (σ[i]?) (fun o hs hn => (S.objs i a o e' hs hn).2) e
  . intro a vs n l e' _ ih x e
    obtain ⟨l', hs, rfl⟩ := b9e e
    exact .tup e' (ih l' hs)
  . intro xs e; cases Option.some.inj (e : some [] = some xs); exact .nil
  . intro v y vs l _ _ iha ihb xs e
    obtain ⟨y, ys, h1, h2, rfl⟩ := b7l e
    exact .cons (iha y h1) (ihb ys h2)
theorem a4e (S : St gl X names ρ σ Λ ad s) {v : Value} {val : V} {l : List D} (r : VRel gl s.heap Λ X.Φ ad v val) (e : lstV σ val = some l) : ∃ a vs n, v = .ref a /\ s.heap.get? a = some (LO vs n) /\ DRels gl s.heap (Un Λ X.Φ) vs l := by
  cases r with
  | d r =>
    cases r with
    | lst h1 _ h2 => exact ⟨_, _, _, rfl, h1, a0q e ▸ h2⟩
    | _ => exact cNS e
  | a r =>
    cases r with
    | lst h1 _ h2 => exact ⟨_, _, _, rfl, h1, (a4s e).2 ▸ h2.nolists (a4s e).1⟩
    | _ => exact cNS e
  | @r a i e' =>
    obtain ⟨_, vs, n, h1, h2⟩ := S.objs i _ _ e' (b9d e) nofun
    exact ⟨_, _, _, rfl, h1, h2⟩
  | t _ _ => exact cNS e
theorem b9h (S : St gl X names ρ σ Λ ad s) {v : Value} {val : V} {l : List D} (r : VRel gl s.heap Λ X.Φ ad v val) (e : tupV val = some l) : ∃ a vs n, v = .ref a /\ s.heap.get? a = some (TO vs n) /\ DRels gl s.heap (Un Λ X.Φ) vs l := by
  cases r with
  | d r =>
    cases r with
    | tup h1 h2 => exact ⟨_, _, _, rfl, h1, a0q e ▸ h2⟩
    | _ => exact cNS e
  | a r =>
    cases r with
    | tup h1 h2 => exact ⟨_, _, _, rfl, h1, (a4s e).2 ▸ h2.nolists (a4s e).1⟩
    | _ => exact cNS e
  | r _ => exact cNS e
  | t _ _ => exact cNS e
end
noncomputable def Gives (W : World0) (A : Around) (m : Sem Value) (s : Shared) (F : Addr -> Prop) (r : D) : Prop :=
  ∀ L, (∃ mm, s.heap.Ns L mm) -> ∀ Q E, (∀ v s', Kept L s s' -> DRel W.gl s'.heap F v r -> Q v s') -> wpAny (model W.p W.w) A m Q E s
section
variable {W : World0} {k : Nat} {A : Around} {s : Shared} {F : Addr -> Prop}
theorem a1t {L : Addr} {o : Obj} {t : Nat} : Kept L s { s with heap := s.heap.push o, toks := t } := .of_keeps (fun ζ ζ e => Heap.get?_push_of_some o e) rfl rfl
theorem a5y : ¬ used s s.heap.objs.size := fun ⟨o, e⟩ => Nat.lt_irrefl _ (Heap.lt_size e)
theorem Gives.int {m : Sem Value} {i : Int} (h : ∀ Q E, (∀ t t', Q (.int i t) { s with toks := t' }) -> wpAny (model W.p W.w) A m Q E s) : Gives W A m s F (.int i) :=
  fun L hL Q E q => h Q E fun t t' => q _ _ .toks (.int i t)
theorem Gives.bool {m : Sem Value} {b : Bool} (h : ∀ Q E, (∀ t', Q (.bool b) { s with toks := t' }) -> wpAny (model W.p W.w) A m Q E s) : Gives W A m s F (.bool b) :=
  fun L hL Q E q => h Q E fun t' => q _ _ .toks (.bool b)
theorem DRels.push {o : Obj} {vs : List Value} {l : List D} (r : DRels W.gl s.heap F vs l) : DRels W.gl (s.heap.push o) F vs l := r.keep (.of_keeps fun ζ ζ e => Heap.get?_push_of_some o e)
theorem Gives.lst {m : Sem Value} {vs : List Value} {l : List D} {n : Nat} (hF : ∀ a, F a -> used s a) (r : DRels W.gl s.heap F vs l)
    (h : ∀ Q E, (∀ t', Q (.ref s.heap.objs.size) { s with heap := s.heap.push (LO vs n), toks := t' }) -> wpAny (model W.p W.w) A m Q E s) : Gives W A m s F (.lst l) :=
  fun L hL Q E q => h Q E fun t' => q _ _ a1t (.lst (Heap.get?_push_size _ rfl) (fun f => a5y (hF _ f)) r.push)
theorem Gives.tup {m : Sem Value} {vs : List Value} {l : List D} {n : Nat} (r : DRels W.gl s.heap F vs l)
    (h : ∀ Q E, (∀ t', Q (.ref s.heap.objs.size) { s with heap := s.heap.push (TO vs n), toks := t' }) -> wpAny (model W.p W.w) A m Q E s) : Gives W A m s F (.tup l) :=
  fun L hL Q E q => h Q E fun t' => q _ _ a1t (.tup (Heap.get?_push_size _ rfl) r.push)
variable {gl : Str -> Option Value} {X : Cx} {names : List Str} {ρ : List (Option V)} {σ : List O} {Λ : Addr -> Prop} {ad : List Addr}
theorem St.usedF (S : St gl X names ρ σ Λ ad s) : ∀ a, Un Λ X.Φ a -> used s a := fun a h => h.elim (fun l => S.lt a l) fun l => by
  obtain ⟨o, e⟩ := S.phi a l
  exact ⟨o, S.keep a o e⟩
theorem St.ns (S : St gl X names ρ σ Λ ad s) : ∃ m, s.heap.Ns X.env.locals m := let ⟨m, _, n, _⟩ := S.vars; ⟨m, n⟩
theorem Gives.post {m : Sem Value} {r : D} {Q : V -> List O -> Prop} (S : St W.gl X names ρ σ Λ ad s) (g : Gives W X.A m s (Un Λ X.Φ) r) (q : Q (.d r) σ) :
    wpAny (model W.p W.w) X.A m (Post W.gl X names ρ σ Λ ad s Q) (fun ζ ζ => False) s :=
  g X.env.locals S.ns _ _ fun v s' kk dr => Post.pure S kk (.d dr) q
end
end Mine
end
section
open PySem PyProof.Rows PySem.SeqAt
namespace Mine
noncomputable def binI : Operator -> Int -> Int -> Option Int
  | .Add, a, b => some (a + b)
  | .Sub, a, b => some (a - b)
  | .Mult, a, b => some (a * b)
  | .FloorDiv, a, b => some (a.fdiv b)
  | .Mod, a, b => some (a.fmod b)
  | .Pow, a, n => some (a ^ n.toNat)
  | _, _, _ => none
noncomputable def c7z : Operator -> Int -> Int -> Prop
  | .Mult, a, b => (-(2 ^ 64) < a /\ a < 2 ^ 64) ∨ (-(2 ^ 64) < b /\ b < 2 ^ 64)
  | .FloorDiv, _, b => b ≠ 0 /\ b.natAbs < 1073741824
  | .Mod, _, b => b ≠ 0
  | .Pow, a, n => 0 <= n /\ (Builtin.Int.intBits a : Int) * n <= 2 ^ 27
  | _, _, _ => True
inductive BinV : Operator -> List O -> V -> V -> D -> Prop
  | int {op : Operator} {σ : List O} {va vb : V} {a b r : Int} : a0i σ va = some (.int a) -> a0i σ vb = some (.int b) -> binI op a b = some r -> c7z op a b -> BinV op σ va vb (.int r)
  | addL {σ : List O} {va vb : V} {l l' : List D} : lstV σ va = some l -> lstV σ vb = some l' -> l.length + l'.length <= 16777216 -> BinV .Add σ va vb (.lst (l ++ l'))
  | addT {σ : List O} {va vb : V} {l l' : List D} : tupV va = some l -> tupV vb = some l' -> l.length + l'.length <= 16777216 -> BinV .Add σ va vb (.tup (l ++ l'))
  | mulL {σ : List O} {va vb : V} {l : List D} {n : Int} : lstV σ va = some l -> a0i σ vb = some (.int n) -> n < 2 ^ 63 -> -(2 ^ 63) <= n -> l.length * n.toNat <= 16777216 -> BinV .Mult σ va vb (.lst (List.replicate n.toNat l).flatten)
section
variable {W : World0} {k : Nat} {A : Around} {s : Shared} {F : Addr -> Prop}
theorem a3d (vs : List Value) : ∀ (n : Nat) (acc : Array Value), List.foldl (fun x1 x2 => x1 ++ x2) acc (List.replicate n vs.toArray) = acc ++ ((List.replicate n vs).flatten).toArray
  | 0, acc => by simp
  | n + 1, acc => by
    erw [List.replicate_succ, List.foldl_cons, a3d vs n, List.replicate_succ, List.flatten_cons]
    simp
theorem DRels.replicate {gl : Str -> Option Value} {h : Heap} {vs : List Value} {l : List D} (r : DRels gl h F vs l) : ∀ n : Nat, DRels gl h F (List.replicate n vs).flatten (List.replicate n l).flatten
  | 0 => .nil
  | n + 1 => by erw [List.replicate_succ, List.replicate_succ, List.flatten_cons, List.flatten_cons]; exact r.append (r.replicate n)
theorem a8h (hF : ∀ a, F a -> used s a) {a b : Addr} {vs ws : List Value} {n n2 : Nat} {l l' : List D} (h1 : s.heap.get? a = some (LO vs n)) (h2 : s.heap.get? b = some (LO ws n2))
    (r1 : DRels W.gl s.heap F vs l) (r2 : DRels W.gl s.heap F ws l') (hsz : l.length + l'.length <= 16777216) : Gives W A (binaryOp .Add (.ref a) (.ref b)) s F (.lst (l ++ l')) := by
  refine Gives.lst (n := 0) hF (r1.append r2) fun Q E q => ?_
  have e : vs.toArray ++ ws.toArray = (vs ++ ws).toArray := by simp
  refine concat_meets ⟨_, h1, rfl⟩ ⟨_, h2, rfl⟩ noFill_list_add seq_list_add PySem.F.slot_list_add PySem.F.entry_list_add (PySem.F.args_list_add_2 _ _)
    (list_addW a b vs.toArray ws.toArray n n2 none none #[] #[] (by simp only [List.size_toArray]; erw [r1.length, r2.length]; simpa [sizeLine] using hsz)) ⟨h1, h2, ?_⟩
  erw [e]
  exact q s.toks
theorem a5j (hF : ∀ a, F a -> used s a) {a : Addr} {vs : List Value} {n : Nat} {l : List D} {x : Int} {u : Tok} (h1 : s.heap.get? a = some (LO vs n))
    (r1 : DRels W.gl s.heap F vs l) (hhi : x < 2 ^ 63) (hlo : -(2 ^ 63) <= x) (hsz : l.length * x.toNat <= 16777216) : Gives W A (binaryOp .Mult (.ref a) (.int x u)) s F (.lst (List.replicate x.toNat l).flatten) := by
  refine Gives.lst (n := 0) hF (r1.replicate x.toNat) fun Q E q => ?_
  have hsz' : vs.toArray.size * x.toNat <= 2 ^ 24 := by erw [List.size_toArray, r1.length]; exact hsz
  refine wpAny_binaryOp_repeat_ref (T := "list") (U := "int") (by decide) ⟨_, h1, rfl⟩ (fun s' => typeIs_int s' x u) noFill_list_mul PySem.F.fills_int_mul PySem.F.slot_int_rmul repeat_list PySem.F.slot_int_index.lookup
    (call_meets PySem.F.slot_int_rmul (typeIs_int s x u) PySem.F.entry_int_rmul (PySem.F.args_int_rmul_2 _ _) (int___rmul___int_list x u a vs.toArray n)
      ⟨h1, rfl, ⟨_, h1, rfl⟩, call_meets PySem.F.slot_list_mul ⟨_, h1, rfl⟩ PySem.F.entry_list_mul (PySem.F.args_list_mul_2 _ _)
        (AutoListH.list___mul___list_int_3 a vs.toArray n x u (by simp [Builtin.List.listFitsIndex]; omega) (by omega) (by simp [Builtin.List.listTooLong, sizeLine]; simp at hsz'; exact om0 hsz'))
        ⟨h1, ?_⟩⟩)
  have e : List.foldl (fun x1 x2 => x1 ++ x2) #[] (List.replicate (if vs.toArray.isEmpty = true then 0 else x.toNat) vs.toArray) = (List.replicate x.toNat vs).flatten.toArray := by
    cases vs with
    | nil =>
      simp
    | cons v vs' =>
      have : ((v :: vs').toArray.isEmpty) = false := by simp
      erw [this]
      simp only [Bool.false_eq_true, if_false]
      erw [a3d]; simp
  erw [e]
  exact q s.toks
theorem a7j {a b : Addr} {vs ws : List Value} {n n2 : Nat} {l l' : List D} (h1 : s.heap.get? a = some (TO vs n)) (h2 : s.heap.get? b = some (TO ws n2))
    (r1 : DRels W.gl s.heap F vs l) (r2 : DRels W.gl s.heap F ws l') (hsz : l.length + l'.length <= 16777216) : Gives W A (binaryOp .Add (.ref a) (.ref b)) s F (.tup (l ++ l')) := by
  have e : vs.toArray ++ ws.toArray = (vs ++ ws).toArray := by simp
  by_cases hv : vs = []
  . subst hv
    cases r1
    intro L hL Q E q
    exact concat_meets ⟨_, h1, rfl⟩ ⟨_, h2, rfl⟩ noFill_tuple_add seq_tuple_add PySem.F.slot_tuple_add PySem.F.entry_tuple_add (PySem.F.args_tuple_add_2 _ _)
      (tuple_addW0 a b #[] ws.toArray n n2 none none #[] #[] (by simp)) ⟨h1, h2, q _ s .refl (.tup h2 r2)⟩
  . by_cases hw : ws = []
    . subst hw
      cases r2
      intro L hL Q E q
      exact concat_meets ⟨_, h1, rfl⟩ ⟨_, h2, rfl⟩ noFill_tuple_add seq_tuple_add PySem.F.slot_tuple_add PySem.F.entry_tuple_add (PySem.F.args_tuple_add_2 _ _)
        (tuple_addW1 a b vs.toArray #[] n n2 none none #[] #[] (by simpa using hv) (by simp)) ⟨h1, h2, q _ s .refl (.tup h1 (by simpa using r1))⟩
    . refine Gives.tup (n := 0) (r1.append r2) fun Q E q => ?_
      refine concat_meets ⟨_, h1, rfl⟩ ⟨_, h2, rfl⟩ noFill_tuple_add seq_tuple_add PySem.F.slot_tuple_add PySem.F.entry_tuple_add (PySem.F.args_tuple_add_2 _ _)
        (tuple_addW2 a b vs.toArray ws.toArray n n2 none none #[] #[] (by simpa using hv) (by simpa using hw) (by simp only [List.size_toArray]; erw [r1.length, r2.length]; simpa [sizeLine] using hsz)) ⟨h1, h2, ?_⟩
      erw [e]
      exact q s.toks
variable {X : Cx} {names : List Str} {ρ : List (Option V)} {σ : List O} {Λ : Addr -> Prop} {ad : List Addr}
theorem b7m (S : St W.gl X names ρ σ Λ ad s) {op : Operator} {va vb : V} {r : D} {v u : Value} (b : BinV op σ va vb r) (rv : VRel W.gl s.heap Λ X.Φ ad v va) (ru : VRel W.gl s.heap Λ X.Φ ad u vb) :
    Gives W X.A (binaryOp op v u) s (Un Λ X.Φ) r := by
  cases b with
  | int e1 e2 e3 e4 =>
    obtain ⟨t1, rfl⟩ := (a0r S rv e1).intI
    obtain ⟨t2, rfl⟩ := (a0r S ru e2).intI
    cases op with
    | Add => cases e3; exact .int fun Q E q => add_int (q _ _)
    | Sub => cases e3; exact .int fun Q E q => sub_int (q _ _)
    | Mult =>
      cases e3
      exact .int fun Q E q => mul_int (q _ _) (e4.elim (fun e4 => IntMulOk.of_left (intBits_le_64 e4.1 e4.2)) fun e4 => IntMulOk.of_right (intBits_le_64 e4.1 e4.2))
    | FloorDiv => cases e3; exact .int fun Q E q => floordiv_int e4.1 (q _ _) (.inl (PyProof.noPylong_small e4.2))
    | Mod => cases e3; exact .int fun Q E q => mod_int e4 (q _ _)
    | Pow => cases e3; exact .int fun Q E q => pow_int e4.1 e4.2 (q _ _)
    | _ => exact dNS e3
  | addL e1 e2 e3 =>
    obtain ⟨a, vs, n, rfl, h1, r1⟩ := a4e S rv e1
    obtain ⟨b, ws, n2, rfl, h2, r2⟩ := a4e S ru e2
    exact a8h S.usedF h1 h2 r1 r2 e3
  | addT e1 e2 e3 =>
    obtain ⟨a, vs, n, rfl, h1, r1⟩ := b9h S rv e1
    obtain ⟨b, ws, n2, rfl, h2, r2⟩ := b9h S ru e2
    exact a7j h1 h2 r1 r2 e3
  | mulL e1 e2 e3 e4 e5 =>
    obtain ⟨a, vs, n, rfl, h1, r1⟩ := a4e S rv e1
    obtain ⟨t2, rfl⟩ := (a0r S ru e2).intI
    exact a5j S.usedF h1 r1 e3 e4 e5
inductive BinQ (op : Operator) (σ : List O) (va vb : V) (Q : V -> List O -> Prop) : Prop
  | mk (r : D) (h : BinV op σ va vb r) (q : Q (.d r) σ) : BinQ op σ va vb Q
theorem TE.bin {op : Operator} {a b : CE} {Q : V -> List O -> Prop} (t : TE W k a ρ σ fun va σ₁ => TE W k b ρ σ₁ fun vb σ₂ => BinQ op σ₂ va vb Q) : TE W k (.bin op a b) ρ σ Q :=
  fun names sc E he X hk hr hw Λ ad s S => by
    replace he := b8w he; obtain ⟨l, o, r, pos, rfl, he⟩ := he
    . skip
      simp only [Bool.and_eq_true, beq_iff_eq] at he
      obtain ⟨⟨rfl, ha⟩, hb⟩ := he
      refine wpAny_BinOp (TE.two (F := binaryOp op) (t.mono fun va σ₁ t₁ => t₁.mono fun vb σ₂ h => ?_) ha hb hk hr hw S)
      obtain ⟨r, hb, q⟩ := h
      intro names X Λ ad s x y hr hw S rx ry
      exact (b7m S hb rx ry).post S q
end
end Mine
end
section
open PySem PyProof.Rows PySem.SeqAt
namespace Mine
noncomputable def put {K α : Type} [DecidableEq K] (l : List (K × α)) (k : K) (x : α) : List (K × α) :=
  if (lk l k).isSome then l.map (fun kv => if kv.1 = k then (kv.1, x) else kv) else l ++ [(k, x)]
section
variable {gl : Str -> Option Value} {h h' : Heap} {F F' : Addr -> Prop} {p : Program} {w : World}
inductive KVI (gl : Str -> Option Value) (h : Heap) (F : Addr -> Prop) : List (Int × Value) -> List (Int × D) -> Prop
  | nil : KVI gl h F [] []
  | cons {k : Int} {v : Value} {x : D} {kvs : List (Int × Value)} {l : List (Int × D)} : DRel gl h F v x -> KVI gl h F kvs l -> KVI gl h F ((k, v) :: kvs) ((k, x) :: l)
theorem ERelI.pairs {es : List DictEntry} {l : List (Int × D)} (r : ERelI gl h F es l) : ∃ kvs, Pairs (intKind p w) es kvs /\ (∀ e ∈ es, ∃ k, (intKind p w).is k e.key = true /\ e.hash = (intKind p w).hash k) /\ KVI gl h F kvs l := by
  induction l generalizing es with
  | nil => cases r; exact ⟨[], .nil, (fun ζ h => nomatch h), .nil⟩
  | cons _ _ ih => cases r with
    | @cons k t v x es l r rs =>
      refine xEAA (ih rs) fun kvs h1 h2 h3 => ?_
      have hi : (intKind p w).is k (.int k t) = true := by simp [intKind, Value.isInt]
      exact ⟨(k, v) :: kvs, .cons hi rfl h1, fun e he => (List.mem_cons.mp he).elim (fun q => q ▸ ⟨k, hi, rfl⟩) (h2 e), .cons r h3⟩
theorem KVI.keys {kvs : List (Int × Value)} {l : List (Int × D)} (r : KVI gl h F kvs l) : kvs.map (·.1) = l.map (·.1) := by
  induction r with
  | nil => rfl
  | cons _ _ ih => erw [List.map_cons, List.map_cons, ih]
theorem KVI.keep (K : Keep F F' h h') {kvs : List (Int × Value)} {l : List (Int × D)} (r : KVI gl h F kvs l) : KVI gl h' F' kvs l := by
  induction r with
  | nil => exact .nil
  | cons a _ ih => exact .cons (a.keep K) ih
theorem KVI.back {kvs : List (Int × Value)} {es : List DictEntry} {l : List (Int × D)} (hp : Pairs (intKind p w) es kvs) (he : ∀ e ∈ es, ∃ k, (intKind p w).is k e.key = true /\ e.hash = (intKind p w).hash k) (r : KVI gl h F kvs l) : ERelI gl h F es l := by
  induction hp generalizing l with
  | nil => cases r; exact .nil
  | @cons e kv es kvs h1 h2 hp ih =>
    cases r with
    | @cons k v x kvs l r rs =>
      obtain ⟨t, ht⟩ := Value.isInt_shape h1
      refine xEA (he e List.mem_cons_self) fun k' hk1 hk2 => ?_
      obtain ⟨t', ht'⟩ := Value.isInt_shape hk1
      rw [ht] at ht'
      have hkk : k' = k := by injection ht' with a b; exact a.symm
      obtain ⟨eh, ek, ev⟩ := e
      simp only at ht h2 hk2
      subst ht h2 hk2 hkk
      exact .cons r (ih (fun e' h' => he e' (List.mem_cons_of_mem _ h')) rs)
theorem KVI.lookup {kvs : List (Int × Value)} {l : List (Int × D)} (r : KVI gl h F kvs l) (k : Int) : (valueAt kvs k = none /\ lk l k = none) ∨ ∃ v x, valueAt kvs k = some v /\ lk l k = some x /\ DRel gl h F v x := by
  induction r with
  | nil => exact .inl ⟨rfl, rfl⟩
  | @cons k' v x kvs l r _ ih =>
    by_cases hk : k' = k
    . subst hk; exact .inr ⟨v, x, by simp [valueAt], by simp [lk], r⟩
    . have e1 : valueAt ((k', v) :: kvs) k = valueAt kvs k := by simp [valueAt, hk]
      have e2 : lk ((k', x) :: l) k = lk l k := by
        simp only [lk]; rw [if_neg fun e => hk e.symm]
      erw [e1, e2]; exact ih
theorem KVI.any {kvs : List (Int × Value)} {l : List (Int × D)} (r : KVI gl h F kvs l) (k : Int) : kvs.any (fun kv => kv.1 = k) = (lk l k).isSome := by
  induction r with
  | nil => rfl
  | @cons k' v x kvs l r _ ih =>
    erw [List.any_cons, ih]
    by_cases hk : k' = k
    . subst hk; simp [lk]
    . simp only [lk]; rw [if_neg fun e => hk e.symm]; simp [hk]
theorem KVI.map {kvs : List (Int × Value)} {l : List (Int × D)} {k : Int} {v : Value} {x : D} (r : KVI gl h F kvs l) (d : DRel gl h F v x) :
    KVI gl h F (kvs.map fun kv => if kv.1 = k then (kv.1, v) else kv) (l.map fun kv => if kv.1 = k then (kv.1, x) else kv) := by
  induction r with
  | nil => exact .nil
  | @cons k' v' x' kvs l r _ ih =>
    erw [List.map_cons, List.map_cons]
    by_cases hk : k' = k
    . simp only [hk, if_true]; exact .cons d ih
    . simp only [hk, if_false]; exact .cons r ih
theorem KVI.snoc {kvs : List (Int × Value)} {l : List (Int × D)} {k : Int} {v : Value} {x : D} (r : KVI gl h F kvs l) (d : DRel gl h F v x) : KVI gl h F (kvs ++ [(k, v)]) (l ++ [(k, x)]) := by
  induction r with
  | nil => exact .cons d .nil
  | cons r _ ih => exact .cons r ih
theorem KVI.stored {kvs : List (Int × Value)} {l : List (Int × D)} {k : Int} {v : Value} {x : D} (r : KVI gl h F kvs l) (d : DRel gl h F v x) : KVI gl h F (stored kvs k v) (put l k x) := by
  unfold PySem.stored put
  erw [r.any k]
  split
  . exact r.map d
  . exact r.snoc d
theorem a5z {a : Addr} {es : List DictEntry} {n : Nat} {l : List (Int × D)} (e : h.get? a = some (DO es n)) (r : ERelI gl h F es l) (nd : (l.map (·.1)).Nodup) :
    ∃ kvs, h.DictOf (intKind p w) a kvs /\ KVI gl h F kvs l := by
  refine xEAA (r.pairs (p := p) (w := w)) fun kvs h1 h2 h3 => ?_
  exact ⟨kvs, ⟨_, es.toArray, n, e, ⟨rfl, rfl, rfl⟩, rfl, fun e' he => h2 e' (by simpa using he), h1, by erw [h3.keys]; exact nd⟩, h3⟩
theorem c8a {a : Addr} {kvs : List (Int × Value)} {l : List (Int × D)} (x : h.DictOf (intKind p w) a kvs) (r : KVI gl h F kvs l) :
    ∃ es n, h.get? a = some (DO es n) /\ ERelI gl h F es l /\ (l.map (·.1)).Nodup := by
  obtain ⟨⟨c, d, dt, sl⟩, es, ep, ho, ⟨h1, h2, h3⟩, hd, hk, hp, hn⟩ := x
  simp only at h1 h2 h3 hd
  subst h1 h2 h3 hd
  refine ⟨es.toList, ep, by simpa [DO] using ho, r.back hp (fun e he => hk e (by simpa using he)), by erw [← r.keys]; exact hn⟩
inductive KVT (gl : Str -> Option Value) (h : Heap) (F : Addr -> Prop) : List (List Int × Addr × Value) -> List (List Int × D) -> Prop
  | nil : KVT gl h F [] []
  | cons {k : List Int} {a : Addr} {vs : List Value} {n : Nat} {v : Value} {x : D} {xs : List (List Int × Addr × Value)} {l : List (List Int × D)} :
    h.get? a = some (TO vs n) -> IntsAre vs k -> DRel gl h F v x -> KVT gl h F xs l -> KVT gl h F ((k, a, v) :: xs) ((k, x) :: l)
theorem b0n {vs : List Value} {ks : List Int} (r : IntsAre vs ks) : ItemsAre (intKind p w) ks vs := by
  induction r with
  | nil => exact .nil
  | cons n t _ ih => exact .cons (by simp [intKind, Value.isInt]) ih
theorem a5p {a : Addr} {vs : List Value} {n : Nat} {ks : List Int} (e : h.get? a = some (TO vs n)) (i : IntsAre vs ks) : (tupleKind (intKind p w)).is h ks a :=
  ⟨_, vs.toArray, n, e, rfl, rfl, by simpa using b0n i⟩
theorem ERelT.heap {es : List DictEntry} {l : List (List Int × D)} (r : ERelT gl h F es l) : ∃ xs, es = xs.map (entryOfKey (tupleKind (intKind p w))) /\ KVT gl h F xs l := by
  induction l generalizing es with
  | nil => cases r; exact ⟨[], rfl, .nil⟩
  | cons _ _ ih => cases r with
    | @cons ks a _ _ v _ _ _ e i r rs =>
      refine xEA (ih rs) fun xs h1 h2 => ?_
      exact ⟨(ks, a, v) :: xs, by erw [List.map_cons, ← h1]; rfl, .cons e i r h2⟩
theorem KVT.keys {xs : List (List Int × Addr × Value)} {l : List (List Int × D)} (r : KVT gl h F xs l) : xs.map (·.1) = l.map (·.1) := by
  induction r with
  | nil => rfl
  | cons _ _ _ _ ih => erw [List.map_cons, List.map_cons, ih]
theorem KVT.is {xs : List (List Int × Addr × Value)} {l : List (List Int × D)} (r : KVT gl h F xs l) : ∀ x ∈ xs, (tupleKind (intKind p w)).is h x.1 x.2.1 := by
  induction r with
  | nil => intro _ hx; cases hx
  | cons e i _ _ ih =>
    intro x hx
    rcases List.mem_cons.mp hx with rfl | hx
    . exact a5p e i
    . exact ih x hx
theorem KVT.keep (K : Keep F F' h h') {xs : List (List Int × Addr × Value)} {l : List (List Int × D)} (r : KVT gl h F xs l) : KVT gl h' F' xs l := by
  induction r with
  | nil => exact .nil
  | cons e i a _ ih => exact .cons (K.tups _ _ _ e) i (a.keep K) ih
theorem KVT.back {xs : List (List Int × Addr × Value)} {l : List (List Int × D)} (r : KVT gl h F xs l) : ERelT gl h F (xs.map (entryOfKey (tupleKind (intKind p w)))) l := by
  induction r with
  | nil => exact .nil
  | cons e i a _ ih => exact .cons e i a ih
theorem KVT.lookup {xs : List (List Int × Addr × Value)} {l : List (List Int × D)} (r : KVT gl h F xs l) (k : List Int) : (atKey xs k = none /\ lk l k = none) ∨ ∃ b v x, atKey xs k = some (b, v) /\ lk l k = some x /\ DRel gl h F v x := by
  induction r with
  | nil => exact .inl ⟨rfl, rfl⟩
  | @cons k' a vs n v x xs l e i r _ ih =>
    by_cases hk : k' = k
    . subst hk; exact .inr ⟨a, v, x, by simp [atKey], by simp [lk], r⟩
    . have e1 : atKey ((k', a, v) :: xs) k = atKey xs k := by simp [atKey, hk]
      have e2 : lk ((k', x) :: l) k = lk l k := by
        simp only [lk]; rw [if_neg fun e => hk e.symm]
      erw [e1, e2]; exact ih
theorem KVT.isSome {xs : List (List Int × Addr × Value)} {l : List (List Int × D)} (r : KVT gl h F xs l) (k : List Int) : (atKey xs k).isSome = (lk l k).isSome := by
  rcases r.lookup k with ⟨a, b⟩ | ⟨b, v, x, e1, e2, _⟩
  . erw [a, b]; rfl
  . erw [e1, e2]; rfl
theorem KVT.map {xs : List (List Int × Addr × Value)} {l : List (List Int × D)} {k : List Int} {v : Value} {x : D} (r : KVT gl h F xs l) (d : DRel gl h F v x) :
    KVT gl h F (xs.map (putAt k v)) (l.map fun kv => if kv.1 = k then (kv.1, x) else kv) := by
  induction r with
  | nil => exact .nil
  | @cons k' a vs n v' x' xs l e i r _ ih =>
    erw [List.map_cons, List.map_cons]
    by_cases hk : k' = k
    . simp only [putAt, hk, if_true]; subst hk; exact .cons e i d ih
    . simp only [putAt, hk, if_false]; exact .cons e i r ih
theorem KVT.snoc {xs : List (List Int × Addr × Value)} {l : List (List Int × D)} {k : List Int} {a : Addr} {vs : List Value} {n : Nat} {v : Value} {x : D} (r : KVT gl h F xs l) (e : h.get? a = some (TO vs n)) (i : IntsAre vs k) (d : DRel gl h F v x) : KVT gl h F (xs ++ [(k, a, v)]) (l ++ [(k, x)]) := by
  induction r with
  | nil => exact .cons e i d .nil
  | cons e' i' r _ ih => exact .cons e' i' r ih
theorem KVT.stored {xs : List (List Int × Addr × Value)} {l : List (List Int × D)} {k : List Int} {a : Addr} {vs : List Value} {n : Nat} {v : Value} {x : D} (r : KVT gl h F xs l) (e : h.get? a = some (TO vs n)) (i : IntsAre vs k) (d : DRel gl h F v x) :
    KVT gl h F (storedH xs k a v) (put l k x) := by
  unfold storedH put
  erw [← r.isSome k]
  split
  . exact r.map d
  . exact r.snoc e i d
theorem b2i {a : Addr} {es : List DictEntry} {n : Nat} {l : List (List Int × D)} (e : h.get? a = some (DO es n)) (r : ERelT gl h F es l) (nd : (l.map (·.1)).Nodup) :
    ∃ xs, h.DictOfH (tupleKind (intKind p w)) a xs /\ KVT gl h F xs l := by
  refine xEA (r.heap (p := p) (w := w)) fun xs h1 h2 => ?_
  exact ⟨xs, ⟨_, es.toArray, n, e, ⟨rfl, rfl, rfl⟩, rfl, by simpa using h1, h2.is, by erw [h2.keys]; exact nd⟩, h2⟩
theorem c8b {a : Addr} {xs : List (List Int × Addr × Value)} {l : List (List Int × D)} (x : h.DictOfH (tupleKind (intKind p w)) a xs) (r : KVT gl h F xs l) :
    ∃ es n, h.get? a = some (DO es n) /\ ERelT gl h F es l /\ (l.map (·.1)).Nodup := by
  obtain ⟨⟨c, d, dt, sl⟩, es, ep, ho, ⟨h1, h2, h3⟩, hd, hk, hp, hn⟩ := x
  simp only at h1 h2 h3 hd
  subst h1 h2 h3 hd
  refine ⟨es.toList, ep, by simpa [DO] using ho, ?_, by erw [← r.keys]; exact hn⟩
  erw [hk]; exact r.back
end
end Mine
end
section
open PySem PyProof.Rows PySem.SeqAt
namespace Mine
section
variable {W : World0} {k : Nat} {A : Around} {s : Shared} {F : Addr -> Prop}
variable {X : Cx} {names : List Str} {ρ : List (Option V)} {σ : List O} {Λ : Addr -> Prop} {ad : List Addr}
theorem Room.units {A : Around} {k : Nat} (h : Room A k) {n : Nat} (hn : n <= 200) : A.units + n < cLine := by
  have := h.2.2; exact om1 this hn
theorem Room.in1 {A : Around} {k : Nat} (h : Room A k) : A.in1.units < cLine := by
  have := h.2.2; show A.units + 1 < cLine; exact om2 this
theorem VRel.dInv {gl : Str -> Option Value} {h : Heap} {Λ Φ : Addr -> Prop} {ad : List Addr} {v : Value} {x : D} (r : VRel gl h Λ Φ ad v (.d x)) : DRel gl h (Un Λ Φ) v x := by cases r; assumption
theorem KVI.isSome {gl : Str -> Option Value} {h : Heap} {kvs : List (Int × Value)} {l : List (Int × D)} (r : KVI gl h F kvs l) (k : Int) : (valueAt kvs k).isSome = (lk l k).isSome := by
  rcases r.lookup k with ⟨a, b⟩ | ⟨v, x, e1, e2, _⟩
  . erw [a, b]; rfl
  . erw [e1, e2]; rfl
open Classical in
theorem a2x {gl : Str -> Option Value} {h : Heap} {vs : List Value} {ns : List Int} (r : DRels gl h F vs (ns.map D.int)) : IntsAre vs ns := by
  induction ns generalizing vs with
  | nil => cases r; exact .nil
  | cons n ns ih => cases r with | cons a b => exact a.intI.elim fun t e => e ▸ .cons n t (ih b)
theorem a9o {p : Program} {w : World} (i : Int) (t : Tok) : (intKind p w).is i (.int i t) = true := by simp [intKind, Value.isInt]
theorem b6c {d : Addr} (h : d ≠ sysModules) : (d == sysModules) = false := by simpa using h
structure CmpV (op : CmpOp) (σ : List O) (va vb : V) (b : Bool) : Prop where
  run : ∀ {W : World0} {A : Around} {k : Nat} {s : Shared} {F : Addr -> Prop} {v u : Value}, Room A k -> (∀ {x}, a0i σ va = some x -> DRel W.gl s.heap noL v x) -> (∀ {x}, a0i σ vb = some x -> DRel W.gl s.heap noL u x) -> Gives W A (compareOp op v u) s F (.bool b)
variable {va vb : V}
theorem CmpV.eq {x y : D} (e1 : a0i σ va = some x) (e2 : a0i σ vb = some y) (p1 : a0y x = true) (p2 : a0y y = true) (d : dep x <= 200) : CmpV .Eq σ va vb (eqD x y) :=
  .mk fun hr hv hu => .bool fun Q E q => rcD (hv e1) (hr.units d) (hu e2) p1 p2 _ _ E Q (q _)
theorem CmpV.ne {x y : D} (e1 : a0i σ va = some x) (e2 : a0i σ vb = some y) (p1 : a0y x = true) (p2 : a0y y = true) (d : dep x <= 200) : CmpV .NotEq σ va vb (!eqD x y) :=
  .mk fun hr hv hu => .bool fun Q E q => rneD (hr.units d) (hv e1) (hu e2) p1 p2 _ _ E Q (q _)
theorem CmpV.lt {i j : Int} (e1 : a0i σ va = some (.int i)) (e2 : a0i σ vb = some (.int j)) : CmpV .Lt σ va vb (decide (i < j)) :=
  .mk fun hr hv hu => by obtain ⟨t1, rfl⟩ := (hv e1).intI; obtain ⟨t2, rfl⟩ := (hu e2).intI; exact .bool fun Q E q => lt_int (q _)
theorem CmpV.le {i j : Int} (e1 : a0i σ va = some (.int i)) (e2 : a0i σ vb = some (.int j)) : CmpV .LtE σ va vb (decide (i <= j)) :=
  .mk fun hr hv hu => by obtain ⟨t1, rfl⟩ := (hv e1).intI; obtain ⟨t2, rfl⟩ := (hu e2).intI; exact .bool fun Q E q => le_int (q _)
theorem CmpV.gt {i j : Int} (e1 : a0i σ va = some (.int i)) (e2 : a0i σ vb = some (.int j)) : CmpV .Gt σ va vb (decide (j < i)) :=
  .mk fun hr hv hu => by obtain ⟨t1, rfl⟩ := (hv e1).intI; obtain ⟨t2, rfl⟩ := (hu e2).intI; exact .bool fun Q E q => gt_int (q _)
theorem CmpV.ge {i j : Int} (e1 : a0i σ va = some (.int i)) (e2 : a0i σ vb = some (.int j)) : CmpV .GtE σ va vb (decide (j <= i)) :=
  .mk fun hr hv hu => by obtain ⟨t1, rfl⟩ := (hv e1).intI; obtain ⟨t2, rfl⟩ := (hu e2).intI; exact .bool fun Q E q => ge_int (q _)
theorem CmpV.isN {x : D} (e1 : a0i σ va = some x) (hf : ∀ f, x ≠ .fn f) : CmpV .Is σ va (.d .none) (match x with | .none => true | _ => false) := .mk fun hr hv hu => by
  have d1 := hv e1
  obtain rfl := (hu rfl).noneI
  cases x with
  | none => obtain rfl := d1.noneI; exact .bool fun Q E q => is_none_none (q _)
  | fn f => exact absurd rfl (hf f)
  | _ => exact .bool fun Q E q => is_none_ne (d1.nn rfl) (q _)
theorem CmpV.isNotN {x : D} (e1 : a0i σ va = some x) (hf : ∀ f, x ≠ .fn f) : CmpV .IsNot σ va (.d .none) (match x with | .none => false | _ => true) := .mk fun hr hv hu => by
  have d1 := hv e1
  obtain rfl := (hu rfl).noneI
  cases x with
  | none => obtain rfl := d1.noneI; exact .bool fun Q E q => isnot_none_none (q _)
  | fn f => exact absurd rfl (hf f)
  | _ => exact .bool fun Q E q => isnot_none_ne (d1.nn rfl) (q _)
theorem CmpV.inDI {i : Int} {l : List (Int × D)} (e1 : a0i σ va = some (.int i)) (e2 : a0i σ vb = some (.dI l)) : CmpV .In σ va vb (lk l i).isSome := .mk fun {W} {A} {k} {s} {F} {v} {u} hr hv hu => by
  obtain ⟨t, rfl⟩ := (hv e1).intI
  obtain ⟨a, es, n, rfl, h1, h2, h3⟩ := (hu e2).dII
  refine xEA (a5z (p := W.p) (w := W.w) h1 h2 h3.1) fun kvs hm kv => ?_
  refine .bool fun Q E q => wpAny_in_of (knd := intKind W.p W.w) (a9o _ _) (b6c h3.2) hm.mapOf ?_
  erw [kv.isSome]; exact q _
theorem a4u (S : St W.gl X names ρ σ Λ ad s) (hr : Room X.A k) {op : CmpOp} {va vb : V} {b : Bool} {v u : Value} (c : CmpV op σ va vb b) (rv : VRel W.gl s.heap Λ X.Φ ad v va) (ru : VRel W.gl s.heap Λ X.Φ ad u vb) :
    Gives W X.A (compareOp op v u) s (Un Λ X.Φ) (.bool b) := c.run hr (a0r S rv) (a0r S ru)
inductive CmpQ (op : CmpOp) (σ : List O) (va vb : V) (Q : Bool -> List O -> Prop) : Prop
  | mk (r : Bool) (h : CmpV op σ va vb r) (q : Q r σ) : CmpQ op σ va vb Q
theorem TE.cmp {op : CmpOp} {a b : CE} {Q : V -> List O -> Prop} (t : TE W k a ρ σ fun va σ₁ => TE W k b ρ σ₁ fun vb σ₂ => CmpQ op σ₂ va vb fun r σ₃ => Q (.d (.bool r)) σ₃) : TE W k (.cmp op a b) ρ σ Q :=
  fun names sc E he X hk hr hw Λ ad s S => by
    replace he := b8x he; obtain ⟨l, o, r, pos, rfl, he⟩ := he
    . skip
      simp only [Bool.and_eq_true, beq_iff_eq, Bool.not_eq_true'] at he
      obtain ⟨⟨⟨rfl, ha⟩, hb⟩, hm⟩ := he
      refine wpAny_Compare1 (TE.two (F := compareOp op) (t.mono fun va σ₁ t₁ => t₁.mono fun vb σ₂ h => ?_) ha hb hk hr hw S) hm
      obtain ⟨r, hb, q⟩ := h
      intro names X Λ ad s x y hr hw S rx ry
      exact (a4u S hr hb rx ry).post S q
theorem TC.cmp {op : CmpOp} {a b : CE} {Q : Bool -> List O -> Prop} (t : TE W k a ρ σ fun va σ₁ => TE W k b ρ σ₁ fun vb σ₂ => CmpQ op σ₂ va vb Q) : TC W k (.cmp op a b) ρ σ Q :=
  fun names sc E he X hk hr hw Λ ad s S => by
    replace he := b8x he; obtain ⟨l, o, r, pos, rfl, he⟩ := he
    . skip
      simp only [Bool.and_eq_true, beq_iff_eq, Bool.not_eq_true'] at he
      obtain ⟨⟨⟨rfl, ha⟩, hb⟩, hm⟩ := he
      have key := TE.two (F := compareOp op) (Q := fun v σ' => ∃ r, v = .d (.bool r) /\ Q r σ') (t.mono fun va σ₁ t₁ => t₁.mono fun vb σ₂ h => by
        obtain ⟨r, hb, q⟩ := h
        intro names X Λ ad s x y hr hw S rx ry
        exact (a4u S hr hb rx ry).post S ⟨r, rfl, q⟩) ha hb hk hr hw S
      refine wpAny_isTrue_Compare1 (wpAny_mono key (fun x s₁ h₁ => wpAny_mono h₁ (fun y s₂ h₂ => wpAny_mono h₂ (fun c s₃ h₃ => ?_) fun ζ ζ f => f) fun ζ ζ f => f) fun ζ ζ f => f) hm
      obtain ⟨val, σ', Λ', ad', S', P', r', b, rfl, q⟩ := h₃
      obtain rfl := r'.dInv.boolI
      exact wpAny_truthy_bool ⟨σ', Λ', ad', S', P', q⟩
end
end Mine
end
section
open PySem PyProof.Rows PySem.SeqAt
namespace Mine
section
variable {W : World0} {k : Nat} {A : Around} {s : Shared} {F : Addr -> Prop}
variable {X : Cx} {names : List Str} {ρ : List (Option V)} {σ : List O} {Λ : Addr -> Prop} {ad : List Addr}
theorem PostC.trans {gl : Str -> Option Value} {σ' : List O} {ad' : List Addr} {Λ' : Addr -> Prop} {s' s'' : Shared} {Q : Bool -> List O -> Prop} {b : Bool} (P : Step (a1c X.env) σ ad Λ s.heap σ' ad' Λ' s'.heap) (x : PostC gl X names ρ σ' Λ' ad' s' Q b s'') : PostC gl X names ρ σ Λ ad s Q b s'' := by
  obtain ⟨σ₂, Λ₂, ad₂, S₂, P₂, q⟩ := x
  exact ⟨σ₂, Λ₂, ad₂, S₂, P.trans P₂, q⟩
theorem TC.not {a : CE} {Q : Bool -> List O -> Prop} (t : TC W k a ρ σ fun b σ' => Q (!b) σ') : TC W k (.not a) ρ σ Q := fun names sc E he X hk hr hw Λ ad s S => by
  replace he := b4f he; obtain ⟨_, _, rfl, he⟩ := he
  . exact isTrue_not (wpAny_mono (t names sc _ he X hk hr hw Λ ad s S) (fun _ _ ⟨a, b, c, d, e, f⟩ => ⟨a, b, c, d, e, f⟩) fun ζ ζ f => f)
theorem TC.andNil {Q : Bool -> List O -> Prop} (q : Q true σ) : TC W k (.and []) ρ σ Q := fun names sc E he X hk hr hw Λ ad s S => by
  replace he := a4d he; obtain ⟨_, _, rfl, he⟩ := he
  . first | (replace he := a0g he; obtain ⟨_, _, rfl, he⟩ := he) | (replace he := a0p he; obtain ⟨rfl, he⟩ := he)
    . exact isTrue_and_nil ⟨σ, Λ, ad, S, .refl, q⟩
theorem TC.and {x : CE} {rest : List CE} {Q : Bool -> List O -> Prop} (t : TC W k x ρ σ fun b σ' => if b then TC W k (.and rest) ρ σ' Q else Q false σ') : TC W k (.and (x :: rest)) ρ σ Q := fun names sc E he X hk hr hw Λ ad s S => by
  replace he := a4d he; obtain ⟨ζ, pos, rfl, he⟩ := he
  . first | (replace he := a0g he; obtain ⟨x, xs, rfl, he⟩ := he) | (replace he := a0p he; obtain ⟨rfl, he⟩ := he)
    . skip
      simp only [Bool.and_eq_true] at he
      refine isTrue_and (wpAny_mono (t names sc _ he.1 X hk hr hw Λ ad s S) (fun b s₁ h₁ => ?_) fun ζ ζ f => f)
      obtain ⟨σ₁, Λ₁, ad₁, S₁, P₁, q⟩ := h₁
      cases b with
      | false => exact ⟨σ₁, Λ₁, ad₁, S₁, P₁, q⟩
      | true => exact wpAny_mono (q names sc (.BoolOp .And xs pos) (by exact he.2) X hk hr hw Λ₁ ad₁ s₁ S₁) (fun b s₂ h₂ => PostC.trans P₁ h₂) fun ζ ζ f => f
theorem TC.orNil {Q : Bool -> List O -> Prop} (q : Q false σ) : TC W k (.or []) ρ σ Q := fun names sc E he X hk hr hw Λ ad s S => by
  replace he := a9m he; obtain ⟨_, _, rfl, he⟩ := he
  . first | (replace he := a0g he; obtain ⟨_, _, rfl, he⟩ := he) | (replace he := a0p he; obtain ⟨rfl, he⟩ := he)
    . exact isTrue_or_nil ⟨σ, Λ, ad, S, .refl, q⟩
theorem TC.or {x : CE} {rest : List CE} {Q : Bool -> List O -> Prop} (t : TC W k x ρ σ fun b σ' => if b then Q true σ' else TC W k (.or rest) ρ σ' Q) : TC W k (.or (x :: rest)) ρ σ Q := fun names sc E he X hk hr hw Λ ad s S => by
  replace he := a9m he; obtain ⟨ζ, pos, rfl, he⟩ := he
  . first | (replace he := a0g he; obtain ⟨x, xs, rfl, he⟩ := he) | (replace he := a0p he; obtain ⟨rfl, he⟩ := he)
    . skip
      simp only [Bool.and_eq_true] at he
      refine isTrue_or (wpAny_mono (t names sc _ he.1 X hk hr hw Λ ad s S) (fun b s₁ h₁ => ?_) fun ζ ζ f => f)
      obtain ⟨σ₁, Λ₁, ad₁, S₁, P₁, q⟩ := h₁
      cases b with
      | true => exact ⟨σ₁, Λ₁, ad₁, S₁, P₁, q⟩
      | false => exact wpAny_mono (q names sc (.BoolOp .Or xs pos) (by exact he.2) X hk hr hw Λ₁ ad₁ s₁ S₁) (fun b s₂ h₂ => PostC.trans P₁ h₂) fun ζ ζ f => f
noncomputable def a4f : CE -> Bool
  | .not _ | .and _ | .or _ | .cmp .. | .cmp2 .. | .ite .. => false
  | _ => true
theorem a8i {names : List Str} {sc : Scope} {e : CE} {E : Expr} (hp : a4f e = true) (he : isE names sc e E = true) (env : Env) (whole : Sem Value) :
    isTrue E env whole = (do let v ← whole; standAt E.pos; holding [v] (truthy v)) := by
  have hi : [0, 5, 15].contains (ixOf e) = false := by cases e <;> first | exact ff hp | rfl
  rw [← c3l he] at hi
  cases E with
  | BoolOp op vs p => exact ff hi.symm
  | UnaryOp op x p => cases op <;> first | rfl | (cases e <;> first | exact ff he | exact ff hp)
  | IfExp a b c d => exact ff hi.symm
  | Compare l ops cs p => exact ff hi.symm
  | _ => rfl
theorem TC.of {e : CE} {Q : Bool -> List O -> Prop} (t : TE W k e ρ σ fun v σ' => ∃ b, v = .d (.bool b) /\ Q b σ') (hp : a4f e = true := by rfl) : TC W k e ρ σ Q := fun names sc E he X hk hr hw Λ ad s S => by
  refine isTrue_plain (wpAny_mono (t names sc E he X hk hr hw Λ ad s S) (fun v s₁ h₁ => ?_) fun ζ ζ f => f) (a8i hp he _ _)
  obtain ⟨val, σ₁, Λ₁, ad₁, S₁, P₁, r, b, rfl, q⟩ := h₁
  have d := r.dInv
  cases d
  exact wpAny_truthy_bool ⟨σ₁, Λ₁, ad₁, S₁, P₁, q⟩
theorem TE.not {a : CE} {Q : V -> List O -> Prop} (t : TE W k a ρ σ fun v σ' => ∃ b, v = .d (.bool b) /\ Q (.d (.bool !b)) σ') : TE W k (.not a) ρ σ Q := fun names sc E he X hk hr hw Λ ad s S => by
  replace he := b4f he; obtain ⟨x, pos, rfl, he⟩ := he
  . skip
    show wpAny _ _ (do let v ← eval x X.env; standAt pos; holding [v] (unaryOp .Not v)) _ _ s
    refine wpAny_bind (wpAny_mono (t names sc _ he X hk hr hw Λ ad s S) (fun v s₁ h₁ => ?_) fun ζ ζ f => f)
    obtain ⟨val, σ₁, Λ₁, ad₁, S₁, P₁, r, b, rfl, q⟩ := h₁
    have d := r.dInv
    cases d
    exact wpAny_bind (wpAny_standAt (wpAny_holding (not_of (wpAny_truthy_bool (Post.trans P₁ (Post.here (t := s₁.toks) S₁ (.d (.bool _)) q))))))
theorem TE.neg {a : CE} {Q : V -> List O -> Prop} (t : TE W k a ρ σ fun v σ' => ∃ i, a0i σ' v = some (.int i) /\ Q (.d (.int (-i))) σ') : TE W k (.neg a) ρ σ Q := fun names sc E he X hk hr hw Λ ad s S => by
  replace he := c7s he; obtain ⟨x, pos, rfl, he⟩ := he
  . skip
    show wpAny _ _ (do let v ← eval x X.env; standAt pos; holding [v] (unaryOp .USub v)) _ _ s
    refine wpAny_bind (wpAny_mono (t names sc _ he X hk hr hw Λ ad s S) (fun v s₁ h₁ => ?_) fun ζ ζ f => f)
    obtain ⟨val, σ₁, Λ₁, ad₁, S₁, P₁, r, i, e, q⟩ := h₁
    have d := a0r S₁ r e
    cases d
    exact wpAny_bind (wpAny_standAt (wpAny_holding (neg_int (Post.trans P₁ (Post.here S₁ (.d (.int _ _)) q)))))
theorem TE.and1 {a : CE} {Q : V -> List O -> Prop} (t : TE W k a ρ σ Q) : TE W k (.and [a]) ρ σ Q := fun names sc E he X hk hr hw Λ ad s S => by
  replace he := a4d he; obtain ⟨_, _, rfl, he⟩ := he
  . first | (replace he := a0g he; obtain ⟨_, _, rfl, he⟩ := he) | (replace he := a0p he; obtain ⟨rfl, he⟩ := he)
    . simp only [Bool.and_eq_true] at he
      have h2 := he.2
      first | (replace h2 := a0g h2; obtain ⟨_, _, rfl, h2⟩ := h2) | (replace h2 := a0p h2; obtain ⟨rfl, h2⟩ := h2)
      . exact BoolOp_one (t names sc _ he.1 X hk hr hw Λ ad s S)
theorem TE.or1 {a : CE} {Q : V -> List O -> Prop} (t : TE W k a ρ σ Q) : TE W k (.or [a]) ρ σ Q := fun names sc E he X hk hr hw Λ ad s S => by
  replace he := a9m he; obtain ⟨_, _, rfl, he⟩ := he
  . first | (replace he := a0g he; obtain ⟨_, _, rfl, he⟩ := he) | (replace he := a0p he; obtain ⟨rfl, he⟩ := he)
    . simp only [Bool.and_eq_true] at he
      have h2 := he.2
      first | (replace h2 := a0g h2; obtain ⟨_, _, rfl, h2⟩ := h2) | (replace h2 := a0p h2; obtain ⟨rfl, h2⟩ := h2)
      . exact BoolOp_one (t names sc _ he.1 X hk hr hw Λ ad s S)
theorem TE.and {a b : CE} {l : List CE} {Q : V -> List O -> Prop} (t : TE W k a ρ σ fun v σ' => ∃ c, v = .d (.bool c) /\ if c then TE W k (.and (b :: l)) ρ σ' Q else Q (.d (.bool false)) σ') : TE W k (.and (a :: b :: l)) ρ σ Q := fun names sc E he X hk hr hw Λ ad s S => by
  replace he := a4d he; obtain ⟨ζ, pos, rfl, he⟩ := he
  . first | (replace he := a0g he; obtain ⟨x, xs, rfl, he⟩ := he) | (replace he := a0p he; obtain ⟨rfl, he⟩ := he)
    . skip
      simp only [Bool.and_eq_true] at he
      have h2 := he.2
      first | (replace h2 := a0g h2; obtain ⟨y, ys, rfl, h2⟩ := h2) | (replace h2 := a0p h2; obtain ⟨rfl, h2⟩ := h2)
      . skip
        refine BoolOp_and (wpAny_mono (t names sc _ he.1 X hk hr hw Λ ad s S) (fun v s₁ h₁ => ?_) fun ζ ζ f => f)
        obtain ⟨val, σ₁, Λ₁, ad₁, S₁, P₁, r, c, rfl, q⟩ := h₁
        have d := r.dInv
        cases d
        refine wpAny_truthy_bool ?_
        cases c with
        | false => exact Post.trans P₁ (Post.here (t := s₁.toks) S₁ (.d (.bool _)) q)
        | true => exact wpAny_mono (q names sc _ (by exact he.2) X hk hr hw Λ₁ ad₁ s₁ S₁) (fun v s₂ h₂ => Post.trans P₁ h₂) fun ζ ζ f => f
theorem TE.or {a b : CE} {l : List CE} {Q : V -> List O -> Prop} (t : TE W k a ρ σ fun v σ' => ∃ c, v = .d (.bool c) /\ if c then Q (.d (.bool true)) σ' else TE W k (.or (b :: l)) ρ σ' Q) : TE W k (.or (a :: b :: l)) ρ σ Q := fun names sc E he X hk hr hw Λ ad s S => by
  replace he := a9m he; obtain ⟨ζ, pos, rfl, he⟩ := he
  . first | (replace he := a0g he; obtain ⟨x, xs, rfl, he⟩ := he) | (replace he := a0p he; obtain ⟨rfl, he⟩ := he)
    . skip
      simp only [Bool.and_eq_true] at he
      have h2 := he.2
      first | (replace h2 := a0g h2; obtain ⟨y, ys, rfl, h2⟩ := h2) | (replace h2 := a0p h2; obtain ⟨rfl, h2⟩ := h2)
      . skip
        refine BoolOp_or (wpAny_mono (t names sc _ he.1 X hk hr hw Λ ad s S) (fun v s₁ h₁ => ?_) fun ζ ζ f => f)
        obtain ⟨val, σ₁, Λ₁, ad₁, S₁, P₁, r, c, rfl, q⟩ := h₁
        have d := r.dInv
        cases d
        refine wpAny_truthy_bool ?_
        cases c with
        | true => exact Post.trans P₁ (Post.here (t := s₁.toks) S₁ (.d (.bool _)) q)
        | false => exact wpAny_mono (q names sc _ (by exact he.2) X hk hr hw Λ₁ ad₁ s₁ S₁) (fun v s₂ h₂ => Post.trans P₁ h₂) fun ζ ζ f => f
theorem TE.ite {c a b : CE} {Q : V -> List O -> Prop} (t : TC W k c ρ σ fun v σ' => if v then TE W k a ρ σ' Q else TE W k b ρ σ' Q) : TE W k (.ite c a b) ρ σ Q := fun names sc E he X hk hr hw Λ ad s S => by
  replace he := c7t he; obtain ⟨_, _, _, _, rfl, he⟩ := he
  . simp only [Bool.and_eq_true] at he
    refine IfExp_ (wpAny_mono (t names sc _ he.1.1 X hk hr hw Λ ad s S) (fun v s₁ h₁ => ?_) fun ζ ζ f => f)
    obtain ⟨σ₁, Λ₁, ad₁, S₁, P₁, q⟩ := h₁
    cases v with
    | true => exact wpAny_mono (q names sc _ he.1.2 X hk hr hw Λ₁ ad₁ s₁ S₁) (fun v s₂ h₂ => Post.trans P₁ h₂) fun ζ ζ f => f
    | false => exact wpAny_mono (q names sc _ he.2 X hk hr hw Λ₁ ad₁ s₁ S₁) (fun v s₂ h₂ => Post.trans P₁ h₂) fun ζ ζ f => f
theorem VRels.toD {gl : Str -> Option Value} {h : Heap} {Λ Φ : Addr -> Prop} {ad : List Addr} {vs : List Value} {l : List D} (r : VRels gl h Λ Φ ad vs (l.map V.d)) : DRels gl h (Un Λ Φ) vs l := by
  induction l generalizing vs with
  | nil => cases r; exact .nil
  | cons x xs ih => cases r with | cons a b => exact .cons a.dInv (ih b)
inductive LstQ (vals : List V) (Q : List D -> Prop) : Prop
  | mk (l : List D) (h : vals = l.map V.d) (hl : l.length <= 16777216) (q : Q l) : LstQ vals Q
theorem TE.tup {es : List CE} {Q : V -> List O -> Prop} (t : TEs W k es ρ σ fun vals σ' => LstQ vals fun l => Q (.d (.tup l)) σ') : TE W k (.tup es) ρ σ Q := fun names sc E he X hk hr hw Λ ad s S => by
  replace he := c7u he; obtain ⟨_, _, _, rfl, he⟩ := he
  . refine Tuple_ (wpAny_mono (t.run he hk hr hw S _) (fun vs s₁ h₁ => ?_) fun ζ ζ f => f)
    obtain ⟨vals, σ₁, Λ₁, ad₁, S₁, P₁, r, l, rfl, hl, q⟩ := h₁
    refine wpAny_mono (Gives.post S₁ (Gives.tup (n := 0) r.toD fun Q E q => ?_) q) (fun v s₂ h₂ => Post.trans P₁ h₂) fun ζ ζ f => f
    exact wpAny_newObj_type (q s₁.toks) (by show vs.toArray.size <= sizeLine; erw [List.size_toArray, r.toD.length]; simpa [sizeLine] using hl)
theorem TE.lst {es : List CE} {Q : V -> List O -> Prop} (t : TEs W k es ρ σ fun vals σ' => LstQ vals fun l => Q (.d (.lst l)) σ') : TE W k (.lst es) ρ σ Q := fun names sc E he X hk hr hw Λ ad s S => by
  replace he := b8y he; obtain ⟨_, _, rfl, he⟩ := he
  . refine List_ (wpAny_mono (t.run he hk hr hw S _) (fun vs s₁ h₁ => ?_) fun ζ ζ f => f)
    obtain ⟨vals, σ₁, Λ₁, ad₁, S₁, P₁, r, l, rfl, hl, q⟩ := h₁
    refine wpAny_mono (Gives.post S₁ (Gives.lst (n := 0) S₁.usedF r.toD fun Q E q => ?_) q) (fun v s₂ h₂ => Post.trans P₁ h₂) fun ζ ζ f => f
    exact wpAny_newObj_type (q s₁.toks) (by show vs.toArray.size <= sizeLine; erw [List.size_toArray, r.toD.length]; simpa [sizeLine] using hl)
end
end Mine
end
section
open PySem PyProof.Rows PySem.SeqAt
namespace Mine
section
variable {gl : Str -> Option Value} {X : Cx} {names : List Str} {ρ : List (Option V)} {σ : List O} {Λ : Addr -> Prop} {ad : List Addr} {s s' : Shared}
theorem get_snoc {α : Type} {l : List α} {x y : α} {i : Nat} (e : (l ++ [x])[i]? = some y) : l[i]? = some y ∨ (i = l.length /\ y = x) := by
  rcases Nat.lt_trichotomy i l.length with h | h | h
  . left; rwa [List.getElem?_append_left h] at e
  . right; subst h; simp at e; exact ⟨rfl, e.symm⟩
  . rw [List.getElem?_eq_none (by simp; exact om3 h)] at e; exact dNS e
theorem b0o {α : Type} {l : List α} {x y : α} {i : Nat} (e : l[i]? = some y) : (l ++ [x])[i]? = some y := by
  have : i < l.length := (List.getElem?_eq_some_iff.mp e).1
  erw [List.getElem?_append_left this]; exact e
theorem St.live (S : St gl X names ρ σ Λ ad s) (kk : Kept X.env.locals s s') {a : Addr} (hn : s.heap.get? a = none) {o : O} (hd : o ≠ .dead)
    (ho : ∀ Λ' ad', Keep Λ Λ' s.heap s'.heap -> (∀ (i : Nat) (b : Addr), ad[i]? = some b -> ad'[i]? = some b) -> ORel gl s'.heap Λ' X.Φ ad' a o) (he : ∃ ob, s'.heap.get? a = some ob) :
    St gl X names ρ (σ ++ [o]) (fun b => Λ b ∨ b = a) (ad ++ [a]) s' /\ Step (a1c X.env) σ ad Λ s.heap (σ ++ [o]) (ad ++ [a]) (fun b => Λ b ∨ b = a) s'.heap := by
  have P := Step.of_kept S kk
  have S' := S.kept kk
  have hna : ∀ b ob, s.heap.get? b = some ob -> b ≠ a := fun b ob e h => by subst h; exact dGN hn e
  have hnad : a ∉ ad := fun hm => by obtain ⟨ob, e⟩ := S.adl a hm; exact dGN hn e
  have hL : a ≠ X.env.locals := fun h => by
    obtain ⟨m, n⟩ := S.ns
    obtain ⟨ob, _, _, e, _⟩ := n
    exact hna _ _ e h.symm
  have K : Keep Λ (fun b => Λ b ∨ b = a) s.heap s'.heap := ⟨(P.keep S).tups, (P.keep S).objs, fun b ob nl ζ e l => l.elim nl (hna b ob e)⟩
  have pre : ∀ (i : Nat) (b : Addr), ad[i]? = some b -> (ad ++ [a])[i]? = some b := fun i b e => b0o e
  refine ⟨⟨S'.keep, S'.os, S'.gens, fun b l => ?_, fun b l => ?_, S.phi, ?_, by simp [S.len], fun b hb => ?_, fun i b o' e1 e2 e3 => ?_, .inl S.locL, ?_, S.cellN, S.rl, ?_⟩, ⟨P.only, P.dom, fun b l => ?_, pre, fun b l => ?_, fun b l => ?_, fun ζ ζ ζ l ζ => .inl l⟩⟩
  . rcases l with l | rfl
    . exact S.new b l
    . cases q : X.hB.get? b with
      | none => rfl
      | some ob => exact absurd rfl (hna _ _ (S.keep _ _ q))
  . rcases l with l | rfl
    . exact S'.lt b l
    . exact he
  . rw [List.nodup_append]
    refine ⟨S.nd, by simp, fun x hx y hy => ?_⟩
    simp only [List.mem_singleton] at hy
    subst hy
    exact fun h => hnad (h ▸ hx)
  . rcases List.mem_append.mp hb with hb | hb
    . exact S'.adl b hb
    . simp only [List.mem_singleton] at hb; subst hb; exact he
  . rcases get_snoc e1 with e1' | ⟨rfl, rfl⟩
    . have hlt : i < σ.length := by erw [← S.len]; exact (List.getElem?_eq_some_iff.mp e1').1
      rw [List.getElem?_append_left hlt] at e2
      obtain ⟨h1, h2⟩ := S.objs i b o' e1' e2 e3
      exact ⟨.inl h1, h2.keep K pre fun ob e => kk.obj b ob (fun h => S.locA (h ▸ a0j e1')) e⟩
    . rw [S.len] at e2
      simp at e2
      subst e2
      exact ⟨.inr rfl, ho _ _ K pre⟩
  . intro hm
    rcases List.mem_append.mp hm with hm | hm
    . exact S.locA hm
    . simp only [List.mem_singleton] at hm; exact hL hm.symm
  . refine a1f S.vars fun m cm n c v => ?_
    refine ⟨m, cm, kk.ns m n, fun x c' e => ?_, fun x i val e1 e2 => ⟨fun hk => ?_, fun hk => ?_⟩⟩
    . have hc := c x c' e
      have := a3l hc n
      obtain ⟨ob, ho', hdt⟩ := hc
      exact ⟨ob, kk.obj c' ob this ho', hdt⟩
    . refine xEA ((v x i val e1 e2).1 hk) fun v' h1 h2 => ?_
      exact ⟨v', h1, h2.keep K pre⟩
    . refine a1f ((v x i val e1 e2).2 hk) fun c' v' h1 h2 h3 => ?_
      exact ⟨c', v', h1, h2, h3.keep K pre⟩
  . exact l.elim .inl fun h => .inr (h ▸ hn)
  . obtain ⟨i, o', e1, e2, e3⟩ := l
    rcases get_snoc e1 with e1' | ⟨rfl, rfl⟩
    . have hlt : i < σ.length := by erw [← S.len]; exact (List.getElem?_eq_some_iff.mp e1').1
      rw [List.getElem?_append_left hlt] at e2
      exact .inl ⟨i, o', e1', e2, e3⟩
    . exact .inr hn
  . rcases List.mem_append.mp l with l | l
    . exact .inl l
    . simp only [List.mem_singleton] at l; subst l; exact .inr hn
theorem set_get {α : Type} {l : List α} {i j : Nat} {x y : α} (e : (l.set i x)[j]? = some y) : (j = i /\ y = x) ∨ (j ≠ i /\ l[j]? = some y) := by
  by_cases h : i = j
  . subst h
    have : i < l.length := by have := (List.getElem?_eq_some_iff.mp e).1; simpa using this
    rw [List.getElem?_set_self this] at e
    exact .inl ⟨rfl, (Option.some.inj e).symm⟩
  . rw [List.getElem?_set_ne h] at e
    exact .inr ⟨Ne.symm h, e⟩
theorem b2j {ad : List Addr} (nd : ad.Nodup) {i j : Nat} {a : Addr} (e1 : ad[i]? = some a) (e2 : ad[j]? = some a) : i = j := by
  have h1 := (List.getElem?_eq_some_iff.mp e1)
  have h2 := (List.getElem?_eq_some_iff.mp e2)
  obtain ⟨l1, q1⟩ := h1
  obtain ⟨l2, q2⟩ := h2
  rcases Nat.lt_trichotomy i j with h | h | h
  . exact absurd (q1.trans q2.symm) (List.pairwise_iff_getElem.mp nd i j l1 l2 h)
  . exact h
  . exact absurd (q2.trans q1.symm) (List.pairwise_iff_getElem.mp nd j i l2 l1 h)
theorem St.update (S : St gl X names ρ σ Λ ad s) {i : Nat} {a : Addr} {o o' : O} (ea : ad[i]? = some a) (eo : σ[i]? = some o) (hd : o ≠ .dead) (hd' : o' ≠ .dead)
    (hsb : ∀ b, b ≠ a -> s'.heap.get? b = s.heap.get? b) (hos : s'.os = s.os) (hg : s'.gens = s.gens) (he : ∃ ob, s'.heap.get? a = some ob)
    (ho : Keep Λ Λ s.heap s'.heap -> ORel gl s'.heap Λ X.Φ ad a o') :
    St gl X names ρ (σ.set i o') Λ ad s' /\ Step (a1c X.env) σ ad Λ s.heap (σ.set i o') ad Λ s'.heap := by
  have hla : a2w σ ad a := ⟨i, o, ea, eo, hd⟩
  have hΛ := S.live_lam hla
  have hL : a ≠ X.env.locals := fun h => S.locA (h ▸ a0j ea)
  have dom : ∀ b ob, s.heap.get? b = some ob -> ∃ ob', s'.heap.get? b = some ob' := fun b ob e => by
    by_cases h : b = a
    . subst h; exact he
    . erw [hsb b h]; exact ⟨ob, e⟩
  have K : Keep Λ Λ s.heap s'.heap := ⟨fun b vs n e => by erw [hsb b (fun h => a3g S e (h ▸ hla))]; exact e, fun b ob nl ζ e => by erw [hsb b (fun h => nl (h ▸ hΛ))]; exact e, fun ζ ζ nl ζ ζ => nl⟩
  have hlen : i < σ.length := (List.getElem?_eq_some_iff.mp eo).1
  refine ⟨⟨fun b ob e => ?_, hos.trans S.os, hg.trans S.gens, S.new, fun b l => ?_, S.phi, S.nd, by simp [S.len], fun b hb => ?_, fun j b o₂ e1 e2 e3 => ?_, S.locL, S.locA, S.cellN, S.rl, ?_⟩,
    ⟨fun b ob nl ζ e => ?_, dom, fun b l => .inl l, fun ζ ζ e => e, fun b l => ?_, fun ζ l => .inl l, fun ζ ζ ζ l ζ => l⟩⟩
  . have hb : b ≠ a := fun h => by subst h; rw [S.new b hΛ] at e; exact dNS e
    erw [hsb b hb]; exact S.keep b ob e
  . obtain ⟨ob, e⟩ := S.lt b l; exact dom b ob e
  . obtain ⟨ob, e⟩ := S.adl b hb; exact dom b ob e
  . rcases set_get e2 with ⟨rfl, rfl⟩ | ⟨hne, e2'⟩
    . rw [ea] at e1; cases e1
      exact ⟨hΛ, ho K⟩
    . obtain ⟨h1, h2⟩ := S.objs j b o₂ e1 e2' e3
      have hb : b ≠ a := fun h => by subst h; exact hne (b2j S.nd e1 ea)
      exact ⟨h1, h2.keep K (fun ζ ζ e => e) fun ob e => by erw [hsb b hb]; exact e⟩
  . refine a1f S.vars fun m cm n c v => ?_
    have n' : s'.heap.Ns X.env.locals m := by
      obtain ⟨ob, es, ep, e, r⟩ := n
      exact ⟨ob, es, ep, by erw [hsb _ (Ne.symm hL)]; exact e, r⟩
    refine ⟨m, cm, n', fun x c' e => ?_, fun x j val e1 e2 => ⟨fun hk => ?_, fun hk => ?_⟩⟩
    . obtain ⟨ob, ho', hdt⟩ := c x c' e
      refine ⟨ob, ?_, hdt⟩
      rw [hsb c' fun h => ?_]
      . exact ho'
      . subst h
        have hor := (S.objs i c' o ea eo hd).2
        cases o with
        | lst l => obtain ⟨vs, n, e', _⟩ := hor; rw [ho'] at e'; cases e'; cases hdt
        | dI l => obtain ⟨vs, n, e', _⟩ := hor; rw [ho'] at e'; cases e'; cases hdt
        | dT l => obtain ⟨vs, n, e', _⟩ := hor; rw [ho'] at e'; cases e'; cases hdt
        | lstV l => obtain ⟨vs, n, e', _⟩ := hor; rw [ho'] at e'; cases e'; cases hdt
        | dead => exact hd rfl
    . refine xEA ((v x j val e1 e2).1 hk) fun v' h1 h2 => ?_
      exact ⟨v', h1, h2.keep K fun ζ ζ e => e⟩
    . refine a1f ((v x j val e1 e2).2 hk) fun c' v' h1 h2 h3 => ?_
      exact ⟨c', v', h1, h2, h3.keep K fun ζ ζ e => e⟩
  . erw [hsb b fun h => nl (h ▸ hla)]; exact e
  . obtain ⟨j, o₂, e1, e2, e3⟩ := l
    rcases set_get e2 with ⟨rfl, rfl⟩ | ⟨hne, e2'⟩
    . rw [ea] at e1; cases e1; exact .inl hla
    . exact .inl ⟨j, o₂, e1, e2', e3⟩
end
end Mine
end
section
open PySem PyProof.Rows PySem.SeqAt
namespace Mine
noncomputable def b2k (x : D) : V := if nolist x then .d x else .a x
noncomputable def oSeq : Option O -> Option (Bool × List V)
  | some (.lst l) => some (true, l.map V.d)
  | some (.lstV l) => some (true, l)
  | _ => none
noncomputable def seqV (σ : List O) : V -> Option (Bool × List V)
  | .d (.lst l) => some (true, l.map V.d)
  | .d (.tup l) => some (false, l.map V.d)
  | .a (.lst l) => some (true, l.map b2k)
  | .a (.tup l) => some (false, l.map b2k)
  | .t l => some (false, l)
  | .r i => oSeq σ[i]?
  | _ => none
section
variable {gl : Str -> Option Value} {X : Cx} {names : List Str} {ρ : List (Option V)} {σ : List O} {Λ Λ' Φ : Addr -> Prop} {ad : List Addr} {s : Shared} {h : Heap}
theorem b9i {v : Value} {x : D} (r : DRel gl h Λ v x) : VRel gl h Λ Φ ad v (b2k x) := by
  unfold b2k
  split
  . exact .d (r.nolist (by assumption))
  . exact .a r
theorem a9p {vs : List Value} {l : List D} (r : DRels gl h Λ vs l) : VRels gl h Λ Φ ad vs (l.map b2k) :=
  DRels.ind (M := fun vs l => VRels gl h Λ Φ ad vs (l.map b2k)) .nil (fun a ζ ih => .cons (b9i a) ih) r
theorem b9j {vs : List Value} {l : List D} (r : DRels gl h (Un Λ Φ) vs l) : VRels gl h Λ Φ ad vs (l.map V.d) :=
  DRels.ind (M := fun vs l => VRels gl h Λ Φ ad vs (l.map V.d)) .nil (fun a ζ ih => .cons (.d a) ih) r
theorem VRels.get {vs : List Value} {l : List V} {i : Nat} {x : V} (r : VRels gl h Λ Φ ad vs l) : l[i]? = some x -> ∃ v, vs[i]? = some v /\ VRel gl h Λ Φ ad v x :=
  VRels.ind (M := fun vs l => ∀ i, l[i]? = some x -> ∃ v, vs[i]? = some v /\ VRel gl h Λ Φ ad v x) (fun i e => by exact dNS e)
    (fun {v} {y} {vs} {l} a _ ih i e => match i, e with
      | 0, e => ⟨v, rfl, Option.some.inj (e : some y = some x) ▸ a⟩
      | i + 1, e => ih i e) r i
theorem c3p {a : Addr} {b : Bool} {l : List V} (o : Option O) (k : ∀ o', o = some o' -> o' ≠ .dead -> ORel gl h Λ Φ ad a o') (e : oSeq o = some (b, l)) : ∃ a' vs n, Value.ref a = .ref a' /\ h.get? a' = some (if b then LO vs n else TO vs n) /\ VRels gl h Λ Φ ad vs l := by
  cases o with
  | none => exact cNS e
  | some o => cases o with
    | lst l => obtain ⟨rfl, rfl⟩ := a2o e; obtain ⟨vs, n, h1, h2⟩ := k _ rfl nofun; exact ⟨_, _, _, rfl, h1, b9j h2⟩
    | lstV l => obtain ⟨rfl, rfl⟩ := a2o e; obtain ⟨vs, n, h1, h2⟩ := k _ rfl nofun; exact ⟨_, _, _, rfl, h1, h2⟩
    | _ => exact cNS e
theorem b4j (S : St gl X names ρ σ Λ ad s) {v : Value} {val : V} {b : Bool} {l : List V} (r : VRel gl s.heap Λ X.Φ ad v val) (e : seqV σ val = some (b, l)) :
    ∃ a vs n, v = .ref a /\ s.heap.get? a = some (if b then LO vs n else TO vs n) /\ VRels gl s.heap Λ X.Φ ad vs l := by
  cases r with
  | d r =>
    cases r with
    | lst h1 _ h2 => obtain ⟨rfl, rfl⟩ := a2o e; exact ⟨_, _, _, rfl, h1, b9j h2⟩
    | tup h1 h2 => obtain ⟨rfl, rfl⟩ := a2o e; exact ⟨_, _, _, rfl, h1, b9j h2⟩
    | _ => exact cNS e
  | a r =>
    cases r with
    | lst h1 _ h2 => obtain ⟨rfl, rfl⟩ := a2o e; exact ⟨_, _, _, rfl, h1, a9p h2⟩
    | tup h1 h2 => obtain ⟨rfl, rfl⟩ := a2o e; exact ⟨_, _, _, rfl, h1, a9p h2⟩
    | _ => exact cNS e
  | @r a i e' => exact c3p (σ[i]?) (fun o hs hn => (S.objs i a o e' hs hn).2) e
  | t h1 h2 => obtain ⟨rfl, rfl⟩ := a2o e; exact ⟨_, _, _, rfl, h1, h2⟩
end
inductive SubV : List O -> V -> V -> V -> Prop
  | seq {σ : List O} {v w : V} {b : Bool} {l : List V} {i : Int} {j : Nat} {x : V} : seqV σ v = some (b, l) -> a0i σ w = some (.int i) -> seqIndex? i l.length = some j -> l[j]? = some x -> -(2 ^ 63) <= i /\ i < 2 ^ 63 -> SubV σ v w x
  | dTr {σ : List O} {w : V} {l : List (List Int × D)} {n : Nat} {i : List Int} {x : D} : σ[n]? = some (.dT l) -> a0i σ w = some (.tup (i.map .int)) -> lk l i = some x -> SubV σ (.r n) w (.d x)
section
variable {W : World0} {k : Nat} {A : Around} {s : Shared} {F : Addr -> Prop}
variable {X : Cx} {names : List Str} {ρ : List (Option V)} {σ : List O} {Λ : Addr -> Prop} {ad : List Addr}
set_option tactic.hygienic true in
theorem seqIndex_cases {i : Int} {n j : Nat} (h : seqIndex? i n = some j) : (0 <= i /\ j = i.toNat /\ j < n) ∨ (i < 0 /\ -(n : Int) <= i /\ j = (i + n).toNat /\ j < n) := by
  unfold seqIndex? at h
  by_cases h0 : i < 0
  . simp only [h0, if_true] at h
    split at h
    . rename_i hh
      simp only [Bool.and_eq_true, decide_eq_true_eq] at hh
      simp only [Option.some.injEq] at h
      right; exact om4 hh h
    . exact dNS h
  . simp only [h0, if_false] at h
    split at h
    . rename_i hh
      simp only [Bool.and_eq_true, decide_eq_true_eq] at hh
      simp only [Option.some.injEq] at h
      left; exact om5 hh h
    . exact dNS h
theorem a7k : typeLookup (.type "dict") "__getitem__" = pure (some (.builtin "dict.__getitem__")) := slot_dict_getitem.lookup
theorem c8c {names : List Str} {sc : Scope} {e : CE} {E : Expr} (h : isE names sc e E = true) (o i : Value) : subscripted E false o i = operate [o, i] (getItem o i) := by
  cases E with
  | Slice l u st p => exact b2e h rfl
  | _ => rfl
theorem c8d {a b : Addr} {es : List DictEntry} {vs : List Value} {n m : Nat} {l : List (List Int × D)} {i : List Int} {x : D} {G : Addr -> Prop} (hr : Room A k) (h1 : s.heap.get? a = some (DO es n)) (h2 : ERelT W.gl s.heap G es l) (nd : (l.map (·.1)).Nodup) (e : lk l i = some x)
    (hb : s.heap.get? b = some (TO vs m)) (hi : IntsAre vs i)
    {Q E : Value -> Shared -> Prop} (q : ∀ v t', DRel W.gl s.heap G v x -> Q v { s with toks := t' }) (value slice : Expr) (hs : subscripted slice false (.ref a) (.ref b) = operate [.ref a, .ref b] (getItem (.ref a) (.ref b))) :
    wpAny (model W.p W.w) A (subscriptTail value slice (.ref a) (.ref b)) Q E s := by
  refine xEA (b2i (p := W.p) (w := W.w) h1 h2 nd) fun xs hm kv => ?_
  rcases kv.lookup i with ⟨_, h⟩ | ⟨b', v, x', ev, ex, dr⟩
  . exact dGN h e
  . rw [e] at ex; cases ex
    exact tail_any hm.typeIs a7k (wpAny_getItem_heap (knd := tupleKind (intKind W.p W.w)) hr.in1 (a5p hb hi) hm ev (q v _ dr)) hs
set_option tactic.hygienic true in
theorem c3q (S : St W.gl X names ρ σ Λ ad s) (hr : Room X.A k) {va vb val : V} {v u : Value} (c : SubV σ va vb val) (rv : VRel W.gl s.heap Λ X.Φ ad v va) (ru : VRel W.gl s.heap Λ X.Φ ad u vb)
    {Q : V -> List O -> Prop} (q : Q val σ) (value slice : Expr) (hs : subscripted slice false v u = operate [v, u] (getItem v u)) :
    wpAny (model W.p W.w) X.A (subscriptTail value slice v u) (Post W.gl X names ρ σ Λ ad s Q) (fun ζ ζ => False) s := by
  cases c with
  | seq e1 e2 e3 e4 e5 =>
    rename_i b l i j
    obtain ⟨a, vs, n, rfl, h1, h2⟩ := b4j S rv e1
    have d2 := a0r S ru e2
    cases d2
    rename_i t
    refine xEA (h2.get e4) fun y hy ry => ?_
    have hlen := h2.length
    have fin : Post W.gl X names ρ σ Λ ad s Q y s := Post.here (t := s.toks) S ry q
    cases b with
    | true =>
      have h1' : s.heap.get? a = some (LO vs n) := h1
      have hl := a0c h1'
      refine tail_any hl.typeIs slot_list_getitem.lookup ?_ hs
      rcases seqIndex_cases e3 with ⟨p0, p1, p2⟩ | ⟨p0, p1, p2, p3⟩
      . exact wpAny_getItem_list hl p0 e5.2 (by subst p1; simpa using hy) fin
      . exact wpAny_getItem_list_neg hl p0 (by simp only [List.size_toArray]; exact om6 p1 hlen) e5.1 (by subst p2; simp only [List.size_toArray, hlen]; simpa using hy) fin
    | false =>
      have h1' : s.heap.get? a = some (TO vs n) := h1
      have hl : IsTup s.heap a vs.toArray := ⟨_, h1', rfl, n, rfl⟩
      exact tail_any hl.typeIs slot_tuple_getitem.lookup (getItem_tuple hl e5.1 e5.2 (j := j) (by simpa [hlen] using e3) (by simpa using hy) fin) hs
  | dTr e0 e1 e2 =>
    have d2 := a0r S ru e1
    cases d2 with
    | tup t1 t2 => cases rv with
      | r e' =>
        obtain ⟨_, es, n, h1, h2, h3⟩ := S.objs _ _ _ e' e0 (by intro h; cases h)
        exact c8d hr h1 h2 h3.1 e2 t1 (a2x t2) (fun v t' dr => Post.here S (.d dr) q) _ _ hs
inductive SubQ (σ : List O) (va vi : V) (Q : V -> List O -> Prop) : Prop
  | mk (x : V) (h : SubV σ va vi x) (q : Q x σ) : SubQ σ va vi Q
theorem TE.sub {a i : CE} {Q : V -> List O -> Prop} (t : TE W k a ρ σ fun va σ₁ => TE W k i ρ σ₁ fun vi σ₂ => SubQ σ₂ va vi Q) : TE W k (.sub a i) ρ σ Q :=
  fun names sc E he X hk hr hw Λ ad s S => by
    replace he := c7v he; obtain ⟨l, r, pos, rfl, he⟩ := he
    . skip
      simp only [Bool.and_eq_true] at he
      refine Subscript_ (TE.two (F := subscriptTail l r) (t.mono fun va σ₁ t₁ => t₁.mono fun vb σ₂ h => ?_) he.1 he.2 hk hr hw S)
      obtain ⟨x, hb, q⟩ := h
      intro names X Λ ad s v u hr hw S rx ry
      exact c3q S hr hb rx ry q _ _ (c8c he.2 _ _)
noncomputable def a2k {α : Type} (l : List α) (lo hi : Option Int) : List α :=
  (sliceRange (sliceBounds lo hi none l.length).1 (sliceBounds lo hi none l.length).2.1 (sliceBounds lo hi none l.length).2.2).filterMap (l[·]?)
theorem DRels.pick {gl : Str -> Option Value} {h : Heap} {F : Addr -> Prop} {vs : List Value} {l : List D} (r : DRels gl h F vs l) : ∀ is : List Nat, DRels gl h F (is.filterMap (vs[·]?)) (is.filterMap (l[·]?))
  | [] => .nil
  | i :: is => by
    simp only [List.filterMap_cons]
    cases e : l[i]? with
    | none =>
      have : vs[i]? = none := by rw [List.getElem?_eq_none_iff] at e ⊢; erw [r.length]; exact e
      erw [this]; exact r.pick is
    | some x =>
      refine xEA (r.get e) fun v hv rv => ?_
      erw [hv]; exact .cons rv (r.pick is)
noncomputable def TEo (W : World0) (k : Nat) (e : Option CE) (ρ : List (Option V)) (σ : List O) (Q : Option Int -> List O -> Prop) : Prop :=
  match e with
  | none => Q none σ
  | some e => TE W k e ρ σ fun v σ' => ∃ i, v = .d (.int i) /\ Q (some i) σ'
theorem TEo.run {e : Option CE} {Q : Option Int -> List O -> Prop} (t : TEo W k e ρ σ Q) {sc : Scope} {Eo : Option Expr} (he : isEo names sc e Eo = true) (hk : KindsOk X.env sc) (hr : Room X.A k) (hw : W.ok X.hB) (S : St W.gl X names ρ σ Λ ad s) :
    wpAny (model W.p W.w) X.A (evalPart Eo X.env) (fun v s' => ∃ i σ' Λ' ad', St W.gl X names ρ σ' Λ' ad' s' /\ Step (a1c X.env) σ ad Λ s.heap σ' ad' Λ' s'.heap /\ IsPart v i /\ Q i σ') (fun ζ ζ => False) s := by
  cases e with
  | none =>
    first | (replace he := b2d he; obtain ⟨_, rfl, he⟩ := he) | (replace he := b2c he; obtain ⟨rfl, he⟩ := he)
    . exact wpAny_pure ⟨none, σ, Λ, ad, S, .refl, .none, t⟩
  | some e =>
    first | (replace he := b2d he; obtain ⟨x, rfl, he⟩ := he) | (replace he := b2c he; obtain ⟨rfl, he⟩ := he)
    . skip
      refine wpAny_mono (t names sc x he X hk hr hw Λ ad s S) (fun v s' h => ?_) fun ζ ζ f => f
      obtain ⟨val, σ', Λ', ad', S', P', r, i, rfl, q⟩ := h
      have d := r.dInv
      cases d
      exact ⟨some i, σ', Λ', ad', S', P', .int _ _, q⟩
theorem a7l (hF : ∀ a, F a -> used s a) {a sl : Addr} {vs : List Value} {n : Nat} {l : List D} {vl vu : Value} {lo hi : Option Int} (h1 : s.heap.get? a = some (LO vs n)) (r : DRels W.gl s.heap F vs l) (hz : l.length <= 16777216)
    (hs : s.heap.IsSliceOf sl vl vu .none) (pl : IsPart vl lo) (pu : IsPart vu hi) : Gives W A (getItem (.ref a) (.ref sl)) s F (.lst (a2k l lo hi)) := by
  have e : a2k vs lo hi = (slicePick vs.toArray lo hi none).toList := by
    simp [a2k, slicePick]
  have rr : DRels W.gl s.heap F (a2k vs lo hi) (a2k l lo hi) := by
    unfold a2k; erw [r.length]; exact r.pick _
  refine Gives.lst (n := 0) hF rr fun Q E q => ?_
  refine wpAny_getItem_list_slice (a0c h1) hs pl pu .none (by intro h; exact dNS h) ?_ (by simp only [List.size_toArray, r.length]; exact hz)
  have := q s.toks
  rw [e] at this
  simpa [LO] using this
theorem TE.slice {a : CE} {lo hi : Option CE} {Q : V -> List O -> Prop} (t : TE W k a ρ σ fun va σ₁ => TEo W k lo ρ σ₁ fun l σ₂ => TEo W k hi ρ σ₂ fun u σ₃ => ∃ xs, lstV σ₃ va = some xs /\ xs.length <= 16777216 /\ Q (.d (.lst (a2k xs l u))) σ₃) : TE W k (.slice a lo hi) ρ σ Q :=
  fun names sc E he X hk hr hw Λ ad s S => by
    replace he := b8z he; obtain ⟨v, l, u, pos', pos, rfl, he⟩ := he
    . skip
      simp only [Bool.and_eq_true] at he
      refine Subscript_ (wpAny_mono (t names sc v he.1.1 X hk hr hw Λ ad s S) (fun o s₁ h₁ => ?_) fun ζ ζ f => f)
      obtain ⟨va, σ₁, Λ₁, ad₁, S₁, P₁, r₁, t₁⟩ := h₁
      refine wpAny_Slice (wpAny_mono (t₁.run he.1.2 hk hr hw S₁) (fun vl s₂ h₂ => ?_) fun ζ ζ f => f)
      refine c2q h₂ fun i σ₂ Λ₂ ad₂ S₂ P₂ pl t₂ => ?_
      refine wpAny_mono (t₂.run he.2 hk hr hw S₂) (fun vu s₃ h₃ => ?_) fun ζ ζ f => f
      refine b4b h₃ fun j σ₃ Λ₃ ad₃ S₃ P₃ pu xs e hz q => ?_
      refine wpAny_pure ?_
      have r₃ := ((r₁.step S₁ P₂).step S₂ P₃)
      obtain ⟨b, vs, n, rfl, h1, h2⟩ := a4e S₃ r₃ e
      have kk : Kept X.env.locals s₃ { s₃ with heap := s₃.heap.push { cls := .type "slice", data := .fields #[vl, vu, .none] } } := a1t (t := s₃.toks)
      have h1' := Heap.get?_push_of_some { cls := .type "slice", data := .fields #[vl, vu, .none] } h1
      have S₄ := S₃.kept kk
      have g := a7l (W := W) (A := X.A) (F := Un Λ₃ X.Φ) S₄.usedF h1' (DRels.push h2) hz (.new _ vl vu .none) pl pu
      exact wpAny_mono (tail_any (a0c h1').typeIs slot_list_getitem.lookup (g.post S₄ q) rfl) (fun v s₅ p => (((p.trans (.of_kept S₃ kk)).trans P₃).trans P₂).trans P₁) fun ζ ζ f => f
theorem TE.cmp2 {o₁ o₂ : CmpOp} {a b c : CE} {Q : V -> List O -> Prop} (t : TE W k a ρ σ fun va σ₁ => TE W k b ρ σ₁ fun vb σ₂ => ∃ r, CmpV o₁ σ₂ va vb r /\ if r then TE W k c ρ σ₂ (fun vc σ₃ => ∃ r', CmpV o₂ σ₃ vb vc r' /\ Q (.d (.bool r')) σ₃) else Q (.d (.bool false)) σ₂) : TE W k (.cmp2 o₁ o₂ a b c) ρ σ Q :=
  fun names sc E he X hk hr hw Λ ad s S => by
    replace he := c3h he; obtain ⟨l, o, o', r, r', pos, rfl, he⟩ := he
    . skip
      simp only [Bool.and_eq_true, beq_iff_eq, Bool.not_eq_true'] at he
      obtain ⟨⟨⟨⟨⟨⟨rfl, rfl⟩, ha⟩, hb⟩, hc⟩, hm⟩, hm'⟩ := he
      refine Compare_chain (rs := []) (ops := []) (wpAny_mono (t names sc l ha X hk hr hw Λ ad s S) (fun x s₁ h₁ => ?_) fun ζ ζ f => f) (by simpa [lastMarks] using hm')
      obtain ⟨va, σ₁, Λ₁, ad₁, S₁, P₁, r₁, t₁⟩ := h₁
      refine chain_link (wpAny_mono (t₁ names sc r hb X hk hr hw Λ₁ ad₁ s₁ S₁) (fun y s₂ h₂ => ?_) fun ζ ζ f => f)
      obtain ⟨vb, σ₂, Λ₂, ad₂, S₂, P₂, r₂, rb, cv, t₂⟩ := h₂
      refine a4u S₂ hr cv (r₁.step S₁ P₂) r₂ X.env.locals S₂.ns _ _ fun v s₃ kk dr => ?_
      cases dr
      refine wpAny_truthy_bool ?_
      have S₃ := S₂.kept kk
      have P₃ := Step.of_kept S₂ kk
      have P := (P₁.trans P₂).trans P₃
      cases rb with
      | false =>
        have := Post.here (t := s₃.toks) S₃ (.d (.bool false)) t₂
        exact Post.trans P this
      | true =>
        refine chain_last (wpAny_mono (t₂ names sc r' hc X hk hr hw Λ₂ ad₂ s₃ S₃) (fun z s₄ h₄ => ?_) fun ζ ζ f => f)
        obtain ⟨vc, σ₄, Λ₄, ad₄, S₄, P₄, r₄, rb', cv', q⟩ := h₄
        exact wpAny_mono ((a4u S₄ hr cv' ((r₂.step S₂ P₃).step S₃ P₄) r₄).post S₄ q) (fun v s₅ p => (p.trans P₄).trans P) fun ζ ζ f => f
end
end Mine
end
section
open PySem PyProof.Rows PySem.SeqAt
namespace Mine
section
variable {W : World0} {k : Nat} {A : Around} {s s' : Shared} {F : Addr -> Prop}
variable {X : Cx} {names : List Str} {ρ : List (Option V)} {σ : List O} {Λ : Addr -> Prop} {ad : List Addr}
theorem a0l (h : Heap) : h.get? h.objs.size = none := by
  cases e : h.get? h.objs.size with
  | none => rfl
  | some o => exact absurd (Heap.lt_size e) (Nat.lt_irrefl _)
theorem a8j (h : Heap) (o : Obj) (hf : o.isFreed = false) : (h.push o).get? h.objs.size = some o := Heap.get?_push_size h hf
theorem Un.mono {Λ' Φ : Addr -> Prop} {h h' : Heap} (K : Keep Λ Λ' h h') {gl : Str -> Option Value} {vs : List Value} {l : List D} (r : DRels gl h (Un Λ Φ) vs l) : DRels gl h' (Un Λ' Φ) vs l := r.keep K.un
theorem St.size_ne (hw : W.ok X.hB) (S : St W.gl X names ρ σ Λ ad s) : s.heap.objs.size ≠ sysModules := fun h => by
  (refine xEA hw.nodigits fun mc ε0 ζ => ?_; obtain ⟨o, es, ep, e, _⟩ := ε0)
  have := Heap.lt_size (S.keep _ _ e)
  rw [h] at this
  exact absurd this (by decide)
theorem TE.lstR {es : List CE} {Q : V -> List O -> Prop} (t : TEs W k es ρ σ fun vals σ' => LstQ vals fun l => Q (.r σ'.length) (σ' ++ [.lst l])) : TE W k (.lst es) ρ σ Q := fun names sc E he X hk hr hw Λ ad s S => by
  replace he := b8y he; obtain ⟨_, _, rfl, he⟩ := he
  . refine List_ (wpAny_mono (t.run he hk hr hw S _) (fun vs s₁ h₁ => ?_) fun ζ ζ f => f)
    obtain ⟨vals, σ₁, Λ₁, ad₁, S₁, P₁, r, l, rfl, hl, q⟩ := h₁
    refine wpAny_newObj_type ?_ (by show vs.toArray.size <= sizeLine; erw [List.size_toArray, r.toD.length]; simpa [sizeLine] using hl)
    have hp := a8j s₁.heap (LO vs 0) rfl
    obtain ⟨S₂, P₂⟩ := S₁.live (s' := { s₁ with heap := s₁.heap.push (LO vs 0) }) (a1t (t := s₁.toks)) (a0l s₁.heap) (o := .lst l) (by intro h; cases h)
      (fun Λ' ad' K pre => ⟨vs, 0, hp, Un.mono K r.toD⟩) ⟨_, hp⟩
    exact ⟨_, _, _, _, S₂, P₁.trans P₂, .r (by erw [← S₁.len]; simp), q⟩
theorem St.newDict (hw : W.ok X.hB) (S : St W.gl X names ρ σ Λ ad s) (o : O) (ho : o = .dI [] ∨ o = .dT []) :
    St W.gl X names ρ (σ ++ [o]) (fun b => Λ b ∨ b = s.heap.objs.size) (ad ++ [s.heap.objs.size]) { s with heap := s.heap.push (DO [] 0) } /\
    Step (a1c X.env) σ ad Λ s.heap (σ ++ [o]) (ad ++ [s.heap.objs.size]) (fun b => Λ b ∨ b = s.heap.objs.size) (s.heap.push (DO [] 0)) := by
  have hp := a8j s.heap (DO [] 0) rfl
  have hs := S.size_ne hw
  exact S.live (s' := { s with heap := s.heap.push (DO [] 0) }) (a1t (t := s.toks)) (a0l s.heap) (o := o) (by rcases ho with rfl | rfl <;> (intro h; cases h))
      (fun Λ' ad' K pre => by rcases ho with rfl | rfl <;> exact ⟨[], 0, hp, .nil, by simp, hs⟩) ⟨_, hp⟩
theorem TE.dct0 {Q : V -> List O -> Prop} (o : O) (ho : o = .dI [] ∨ o = .dT []) (q : Q (.r σ.length) (σ ++ [o])) : TE W k .dct0 ρ σ Q := fun names sc E he X hk hr hw Λ ad s S => by
  replace he := b5z he; obtain ⟨_, rfl, he⟩ := he
  . refine wpAny_Dict_empty ?_
    obtain ⟨S₂, P₂⟩ := S.newDict hw o ho
    exact ⟨_, _, _, _, S₂, P₂, .r (by erw [← S.len]; simp), q⟩
theorem St.putI (S : St W.gl X names ρ σ Λ ad s) {i : Nat} {a : Addr} {l : List (Int × D)} {key : Int} {t : Tok} {x : D} {v : Value} (ea : ad[i]? = some a) (eo : σ[i]? = some (.dI l)) (hl : l.length <= 16777216) (r : DRel W.gl s.heap (Un Λ X.Φ) v x) :
    ∃ kvs, s.heap.DictOf (intKind W.p W.w) a kvs /\ kvs.length <= sizeLine /\ ∀ h' t', h'.DictOf (intKind W.p W.w) a (stored kvs key v) -> Heap.SameBut a s.heap h' ->
      St W.gl X names ρ (σ.set i (.dI (put l key x))) Λ ad { s with heap := h', toks := t' } /\ Step (a1c X.env) σ ad Λ s.heap (σ.set i (.dI (put l key x))) ad Λ h' := by
  (refine xA (S.objs i a _ ea eo (by intro h; cases h)) fun ζ ε0 => ?_; obtain ⟨es, n, h1, h2, h3⟩ := ε0)
  refine xEA (a5z (p := W.p) (w := W.w) h1 h2 h3.1) fun kvs hm kv => ?_
  refine ⟨kvs, hm, ?_, fun h' t' hm' hs' => ?_⟩
  . have := congrArg List.length kv.keys
    simp only [List.length_map] at this
    erw [this]; exact hl
  . have hex : ∃ ob, h'.get? a = some ob := let ⟨o, _, _, ho, _⟩ := hm'; ⟨o, ho⟩
    refine S.update (s' := { s with heap := h', toks := t' }) ea eo (by intro h; cases h) (by intro h; cases h) hs'.2 rfl rfl hex fun K => ?_
    refine a1f (c8a hm' ((kv.stored r).keep K.un)) fun es' n' e' r' nd => ?_
    exact ⟨es', n', e', r', nd, h3.2⟩
theorem St.putT (S : St W.gl X names ρ σ Λ ad s) {i : Nat} {a b : Addr} {l : List (List Int × D)} {key : List Int} {vs : List Value} {m : Nat} {x : D} {v : Value} (ea : ad[i]? = some a) (eo : σ[i]? = some (.dT l)) (hl : l.length <= 16777216)
    (hb : s.heap.get? b = some (TO vs m)) (hi : IntsAre vs key) (r : DRel W.gl s.heap (Un Λ X.Φ) v x) :
    ∃ xs, s.heap.DictOfH (tupleKind (intKind W.p W.w)) a xs /\ xs.length <= sizeLine /\ ∀ h' t', h'.DictOfH (tupleKind (intKind W.p W.w)) a (storedH xs key b v) -> Heap.SameBut a s.heap h' ->
      St W.gl X names ρ (σ.set i (.dT (put l key x))) Λ ad { s with heap := h', toks := t' } /\ Step (a1c X.env) σ ad Λ s.heap (σ.set i (.dT (put l key x))) ad Λ h' := by
  (refine xA (S.objs i a _ ea eo (by intro h; cases h)) fun ζ ε0 => ?_; obtain ⟨es, n, h1, h2, h3⟩ := ε0)
  refine xEA (b2i (p := W.p) (w := W.w) h1 h2 h3.1) fun kvs hm kv => ?_
  refine ⟨kvs, hm, ?_, fun h' t' hm' hs' => ?_⟩
  . have := congrArg List.length kv.keys
    simp only [List.length_map] at this
    erw [this]; exact hl
  . have hex : ∃ ob, h'.get? a = some ob := let ⟨o, _, _, ho, _⟩ := hm'; ⟨o, ho⟩
    refine S.update (s' := { s with heap := h', toks := t' }) ea eo (by intro h; cases h) (by intro h; cases h) hs'.2 rfl rfl hex fun K => ?_
    refine a1f (c8b hm' ((kv.stored hb hi r).keep K.un)) fun es' n' e' r' nd => ?_
    exact ⟨es', n', e', r', nd, h3.2⟩
theorem a8k (x : Str) (pos : Pos) (attr : Str) (env : Env) (whole : Sem Value) : attributeBase (.Name x pos) attr env whole = whole := rfl
theorem St.relist (S : St W.gl X names ρ σ Λ ad s) {i : Nat} {a : Addr} {l l' : List D} {vs vs' : List Value} {n n' : Nat} {t : Nat} (ea : ad[i]? = some a) (eo : σ[i]? = some (.lst l)) {h' : Heap} (hb : ∀ b, b ≠ a -> h'.get? b = s.heap.get? b) (e' : h'.get? a = some (LO vs' n')) (r : DRels W.gl s.heap (Un Λ X.Φ) vs' l') :
    St W.gl X names ρ (σ.set i (.lst l')) Λ ad { s with heap := h', toks := t } /\ Step (a1c X.env) σ ad Λ s.heap (σ.set i (.lst l')) ad Λ h' :=
  S.update (s' := { s with heap := h', toks := t }) ea eo (by intro h; cases h) (by intro h; cases h) hb rfl rfl ⟨_, e'⟩ fun K => ⟨vs', n', e', r.keep K.un⟩
theorem a6a {h : Heap} {a : Addr} {vs : List Value} {n : Nat} (e : h.get? a = some (LO vs n)) (f : Array Value -> Array Value) : ∃ n', (h.update a (Obj.mapSeq f)).get? a = some (LO (f vs.toArray).toList n') :=
  ⟨_, by simpa [LO] using PySem.IsL.update (show PySem.IsL h a vs.toArray n from e) f⟩
set_option tactic.hygienic true in
theorem a9q {i : Nat} {m : Str} {id : String} {pos : Pos} {args : List (Bool × Sem Value)} {Q : V -> List O -> Prop} {v : Value} {l : List D} (S : St W.gl X names ρ σ Λ ad s) (r : VRel W.gl s.heap Λ X.Φ ad v (.r i)) (eo : σ[i]? = some (.lst l))
    (slot : Slot "list" m id) (ty : typeOf (.builtin id) = pure (.type "method_descriptor"))
    (h : ∀ a vs n, v = .ref a -> ad[i]? = some a -> s.heap.get? a = some (LO vs n) -> DRels W.gl s.heap (Un Λ X.Φ) vs l -> wpAny (model W.p W.w) X.A (callWith pos (.builtin id) [.ref a] args []) (Post W.gl X names ρ σ Λ ad s Q) (fun ζ ζ => False) s) :
    MethodOnS W.p W.w X.A (fun ζ ζ => False) m v pos args (Post W.gl X names ρ σ Λ ad s Q) s := by
  cases r with
  | r e =>
    rename_i a
    obtain ⟨_, vs, n, h1, h2⟩ := S.objs i a _ e eo (by intro h; cases h)
    exact ⟨"list", id, PySem.F.plainAttrs_list, slot, ty, ⟨_, h1, rfl⟩, fun b hb => by cases hb; exact ⟨_, h1, rfl⟩, h a vs n rfl e h1 h2⟩
set_option tactic.hygienic true in
theorem TE.append {i : Nat} {e : CE} {j : Nat} {Q : V -> List O -> Prop} (hx : ρ[i]? = some (some (.r j))) (h0 : ∃ l, σ[j]? = some (.lst l)) (t : TE W k e ρ σ fun v σ' => ∃ x l, v = .d x /\ σ'[j]? = some (.lst l) /\ l.length <= 16777216 /\ Q (.d .none) (σ'.set j (.lst (l ++ [x])))) :
    TE W k (.meth (.var i) "append" [e]) ρ σ Q := fun names sc E he X hk hr hw Λ ad s S => by
  replace he := b0l he; obtain ⟨o, n, ap, args, pos, rfl, he⟩ := he
  . skip
    simp only [Bool.and_eq_true, beq_iff_eq] at he
    obtain ⟨⟨⟨⟨hv, rfl⟩, hes⟩, _⟩, hl⟩ := he
    have hv' := hv
    replace hv' := a8e hv'; obtain ⟨_, _, rfl, hv'⟩ := hv'
    . rename_i x px
      first | (replace hes := a0g hes; obtain ⟨x1, xs, rfl, hes⟩ := hes) | (replace hes := a0p hes; obtain ⟨rfl, hes⟩ := hes)
      . skip
        simp only [Bool.and_eq_true] at hes
        obtain ⟨he1, hnil⟩ := hes
        first | (replace hnil := a0g hnil; obtain ⟨_, _, rfl, hnil⟩ := hnil) | (replace hnil := a0p hnil; obtain ⟨rfl, hnil⟩ := hnil)
        . refine Call_method1 (a8k _ _ _ _ _) (a0m he1 _ _) (by simpa using hl) ?_
          refine wpAny_mono (TE.var (W := W) (k := k) (Q := fun v σ' => v = .r j /\ σ' = σ) hx ⟨rfl, rfl⟩ names sc _ hv X hk hr hw Λ ad s S) (fun v s₁ h₁ => ?_) fun ζ ζ f => f
          obtain ⟨val, σ₁, Λ₁, ad₁, S₁, P₁, r₁, rfl, rfl⟩ := h₁
          obtain ⟨l0, h0⟩ := h0
          have key : MethodOnS W.p W.w X.A (fun ζ ζ => False) (Str.ofString "append") v pos [(false, eval x1 X.env)] (Post W.gl X names ρ σ₁ Λ₁ ad₁ s₁ Q) s₁ := by
            refine a9q S₁ r₁ h0 PySem.F.slot_list_append PySem.F.type_list_append fun a vs n hva ea h1 h2 => ?_
            refine PySem.P.append_list (wpAny_mono (t names sc x1 he1 X hk hr hw Λ₁ ad₁ s₁ S₁) (fun y s₂ h₂ => ?_) fun ζ ζ f => f)
            obtain ⟨val, σ₂, Λ₂, ad₂, S₂, P₂, r₂, x', l, rfl, eo, hlen, q⟩ := h₂
            have ea' := P₂.pre _ _ ea
            obtain ⟨_, vs', n', h1', h2'⟩ := S₂.objs j a _ ea' eo (by intro h; cases h)
            refine ⟨vs'.toArray, n', by simp only [List.size_toArray, h2'.length]; exact hlen, h1', ?_⟩
            obtain ⟨n'', e''⟩ := a6a h1' fun xs => xs.push y
            obtain ⟨S₃, P₃⟩ := S₂.relist (t := s₂.toks) (n := n') (vs := vs') ea' eo (h' := s₂.heap.update a (Obj.mapSeq fun xs => xs.push y)) (fun b hb => Heap.get?_update_other _ _ (Ne.symm hb)) e'' (l' := l ++ [x']) (by
              have := h2'.append (.cons r₂.dInv .nil)
              simpa using this)
            exact ⟨_, _, _, _, S₃, P₂.trans P₃, .d .none, q⟩
          obtain ⟨T, id, h1, h2, h3, h4, h5, h6⟩ := key
          exact ⟨T, id, h1, h2, h3, h4, h5, wpAny_mono h6 (fun v s₂ p => p.trans P₁) fun ζ ζ f => f⟩
set_option tactic.hygienic true in
theorem TE.insert {i : Nat} {e f : CE} {j : Nat} {Q : V -> List O -> Prop} (hx : ρ[i]? = some (some (.r j))) (h0 : ∃ l, σ[j]? = some (.lst l)) (t : TE W k e ρ σ fun w σ₁ => w = .d (.int 0) /\ TE W k f ρ σ₁ fun v σ' => ∃ x l, v = .d x /\ σ'[j]? = some (.lst l) /\ l.length <= 16777216 /\ Q (.d .none) (σ'.set j (.lst (x :: l)))) :
    TE W k (.meth (.var i) "insert" [e, f]) ρ σ Q := fun names sc E he X hk hr hw Λ ad s S => by
  replace he := b0l he; obtain ⟨o, n, ap, args, pos, rfl, he⟩ := he
  . skip
    simp only [Bool.and_eq_true, beq_iff_eq] at he
    obtain ⟨⟨⟨⟨hv, rfl⟩, hes⟩, _⟩, hl⟩ := he
    have hv' := hv
    replace hv' := a8e hv'; obtain ⟨_, _, rfl, hv'⟩ := hv'
    . rename_i x px
      first | (replace hes := a0g hes; obtain ⟨x1, xs, rfl, hes⟩ := hes) | (replace hes := a0p hes; obtain ⟨rfl, hes⟩ := hes)
      . skip
        simp only [Bool.and_eq_true] at hes
        obtain ⟨he1, hes⟩ := hes
        first | (replace hes := a0g hes; obtain ⟨x2, xs, rfl, hes⟩ := hes) | (replace hes := a0p hes; obtain ⟨rfl, hes⟩ := hes)
        . skip
          simp only [Bool.and_eq_true] at hes
          obtain ⟨he2, hnil⟩ := hes
          first | (replace hnil := a0g hnil; obtain ⟨_, _, rfl, hnil⟩ := hnil) | (replace hnil := a0p hnil; obtain ⟨rfl, hnil⟩ := hnil)
          . refine Call_method2 (a8k _ _ _ _ _) (by erw [a0m he1, a0m he2]; rfl) (by simpa using hl) ?_
            refine wpAny_mono (TE.var (W := W) (k := k) (Q := fun v σ' => v = .r j /\ σ' = σ) hx ⟨rfl, rfl⟩ names sc _ hv X hk hr hw Λ ad s S) (fun v s₁ h₁ => ?_) fun ζ ζ f => f
            obtain ⟨val, σ₁, Λ₁, ad₁, S₁, P₁, r₁, rfl, rfl⟩ := h₁
            obtain ⟨l0, h0⟩ := h0
            have key : MethodOnS W.p W.w X.A (fun ζ ζ => False) (Str.ofString "insert") v pos [(false, eval x1 X.env), (false, eval x2 X.env)] (Post W.gl X names ρ σ₁ Λ₁ ad₁ s₁ Q) s₁ := by
              refine a9q S₁ r₁ h0 PySem.F.slot_list_insert PySem.F.type_list_insert fun a vs n hva ea h1 h2 => ?_
              refine method_meets PySem.F.slot_list_insert PySem.F.entry_list_insert rfl (Calls.evalArgs_plain (Calls.spliced_cons (wpAny_mono (t names sc x1 he1 X hk hr hw Λ₁ ad₁ s₁ S₁) (fun y s₂ h₂ => ?_) fun ζ ζ f => f)))
              obtain ⟨val1, σ₂, Λ₂, ad₂, S₂, P₂, r₂, rfl, t₂⟩ := h₂
              refine Calls.spliced_cons (wpAny_mono (t₂ names sc x2 he2 X hk hr hw Λ₂ ad₂ s₂ S₂) (fun z s₃ h₃ => Calls.spliced_nil ⟨rfl, ?_⟩) fun ζ ζ f => f)
              obtain ⟨val2, σ₃, Λ₃, ad₃, S₃, P₃, r₃, x', l, rfl, eo, hlen, q⟩ := h₃
              have d := r₂.dInv
              cases d
              have ea' := P₃.pre _ _ (P₂.pre _ _ ea)
              obtain ⟨_, vs', n', h1', h2'⟩ := S₃.objs j a _ ea' eo (by intro h; cases h)
              refine ⟨⟨_, h1', rfl⟩, PySem.F.args_list_insert_3 _ _ _, _, PySem.AutoSeq1.list_insert_list_int_val_1 a vs'.toArray n' 0 _ z (by decide) (by simp only [List.size_toArray, h2'.length]; exact hlen), h1', ?_⟩
              refine xE (a6a h1' fun xs => have k := if (0 : Int) < 0 then (0 + (xs.size : Int)).toNat else min (0 : Int).toNat xs.size; (xs.extract 0 k).push z ++ xs.extract k) fun n'' e'' => ?_
              obtain ⟨S₄, P₄⟩ := S₃.relist (t := s₃.toks) (n := n') (vs := vs') ea' eo (h' := s₃.heap.update a (Obj.mapSeq fun xs => have k := if (0 : Int) < 0 then (0 + (xs.size : Int)).toNat else min (0 : Int).toNat xs.size; (xs.extract 0 k).push z ++ xs.extract k)) (fun b hb => Heap.get?_update_other _ _ (Ne.symm hb)) e'' (l' := x' :: l) (by
                simp
                exact DRels.cons r₃.dInv h2')
              exact ⟨_, _, _, _, S₄, (P₂.trans P₃).trans P₄, .d .none, q⟩
            obtain ⟨T, id, h1, h2, h3, h4, h5, h6⟩ := key
            exact ⟨T, id, h1, h2, h3, h4, h5, wpAny_mono h6 (fun v s₂ p => p.trans P₁) fun ζ ζ f => f⟩
end
end Mine
end
section
open PySem PyProof.Rows PySem.SeqAt
namespace Mine
theorem a9r {α β : Type} [BEq α] [LawfulBEq α] : ∀ {xs : List α} {ys : List β} {x : α}, ys.length = xs.length -> x ∈ xs -> ∃ y, (xs.zip ys).lookup x = some y
  | [], _, _, _, h => by cases h
  | a :: xs, [], _, hl, _ => by simp at hl
  | a :: xs, b :: ys, x, hl, h => by
    simp only [List.zip_cons_cons, List.lookup_cons]
    cases e : x == a with
    | true => exact ⟨b, rfl⟩
    | false =>
      have : x ∈ xs := by
        rcases List.mem_cons.mp h with rfl | h
        . simp at e
        . exact h
      exact a9r (by simpa using hl) this
theorem a3z {α β : Type} {f g : α -> Option β} : ∀ {l : List α}, (∀ x ∈ l, f x = g x) -> l.filterMap f = l.filterMap g
  | [], _ => rfl
  | a :: l, h => by
    simp only [List.filterMap_cons]
    erw [h a List.mem_cons_self, a3z fun x hx => h x (List.mem_cons_of_mem _ hx)]
theorem a6b {α β : Type} [BEq α] [LawfulBEq α] : ∀ {xs : List α} {ys : List β}, ys.length = xs.length -> xs.Nodup -> xs.filterMap (fun n => ((xs.zip ys).lookup n).map (n, ·)) = xs.zip ys
  | [], ys, _, _ => by simp
  | a :: xs, [], hl, _ => by simp at hl
  | a :: xs, b :: ys, hl, nd => by
    obtain ⟨n1, n2⟩ := List.nodup_cons.mp nd
    simp only [List.zip_cons_cons, List.filterMap_cons, List.lookup_cons, beq_self_eq_true, Option.map_some]
    congr 1
    refine Eq.trans (a3z fun x hx => ?_) (a6b (ys := ys) (by simpa using hl) n2)
    have : (x == a) = false := by
      rw [beq_eq_false_iff_ne]; rintro rfl; exact n1 hx
    erw [this]
theorem c6j {α : Type} {c : Prop} {i : Decidable c} {a b x : α} (hc : ¬ c) (h : b = x) : @ite α c i a b = x := (if_neg hc).trans h
theorem b4k {α β γ δ : Type} {xs : List α} {zs : List β} {i : γ} {f : (α × β) -> γ -> Sem (ForInStep γ)} {g : γ -> Sem δ} {r : Sem δ} (hz : zs = []) (h : g i = r) : (forIn (xs.zip zs) i f >>= g) = r := by
  subst hz; erw [List.zip_nil_right]; exact h
theorem c8e {ns : List Str} {n : Nat} {zs : List Value} {p : Str -> Bool} (hn : n = ns.length) (hz : zs = []) (h : ns.filter p = []) : ¬ ((!((List.take (n - zs.length) ns).filter p).isEmpty) = true) := by
  subst hz; subst hn; erw [List.length_nil, Nat.sub_zero, List.take_length, h]; exact Bool.false_ne_true
theorem b9k {p : Arguments} (h1 : p.posonlyargs = []) (h3 : p.vararg = none) (h4 : p.kwonlyargs = []) (h5 : p.kwarg = none) : p = ⟨[], p.args, none, [], p.kw_defaults, none, p.defaults⟩ := by
  cases p; cases h1; cases h3; cases h4; cases h5; rfl
theorem b4l {ar : List Arg} {fd : FuncData} {kd : List (Option Expr)} {df : List Expr} {vals : List Value} (hp : fd.params = ⟨[], ar, none, [], kd, none, df⟩) (hd : fd.defaults = .none)
    (h0 : ¬ ((decide (vals.length > (ar.map (·.arg)).length) && true) = true)) (e1 : (ar.map (·.arg)).filter (fun n => (((ar.map (·.arg)).zip vals).lookup n).isNone) = [])
    (e2 : (ar.map (·.arg)).filterMap (fun n => (((ar.map (·.arg)).zip vals).lookup n).map (n, ·)) = (ar.map (·.arg)).zip vals) : bindArgs fd ⟨vals, []⟩ = pure ((ar.map (·.arg)).zip vals) := by
  obtain ⟨nm, qn, p, bd, sc, gl, cl, dfs, kdf, dc, pm, an, co, ct⟩ := fd
  cases hp; cases hd
  refine c6j (c := (decide (vals.length > (ar.map (·.arg)).length) && true) = true) h0 ?_
  refine c6j (c8e (n := (ar.map (·.arg)).length) (zs := List.drop (0 - (ar.map (·.arg)).length) []) rfl List.drop_nil e1) ?_
  refine b4k (zs := List.drop (0 - (ar.map (·.arg)).length) ([] : List Value)) List.drop_nil ?_
  exact congrArg (pure (f := Sem)) ((congrArg _ (List.append_nil _)).trans e2)
theorem a9e {fd : FuncData} {vals : List Value} (h1 : fd.params.posonlyargs = []) (h3 : fd.params.vararg = none) (h4 : fd.params.kwonlyargs = []) (h5 : fd.params.kwarg = none) (hd : fd.defaults = .none)
    (hl : vals.length = fd.params.args.length) (nd : (fd.params.args.map (·.arg)).Nodup) : bindArgs fd ⟨vals, []⟩ = pure ((fd.params.args.map (·.arg)).zip vals) :=
  have hl' : vals.length = (fd.params.args.map (·.arg)).length := hl.trans (List.length_map _).symm
  b4l (b9k h1 h3 h4 h5) hd (fun h => Nat.lt_irrefl _ (Nat.lt_of_lt_of_eq (of_decide_eq_true ((Bool.and_true _).symm.trans h)) hl')) (List.filter_eq_nil_iff.2 fun x hx => by
    obtain ⟨y, hy⟩ := a9r hl' hx
    erw [hy]; exact Bool.false_ne_true) (a6b hl' nd)
theorem Room.deeper {A : Around} {k : Nat} (h : Room A (k + 1)) (env : Env) : Room (A.deeper env) k :=
  ⟨h.1, by have := h.2.1; show A.depth + 1 + k < _; exact om7 this, by have := h.2.2; show A.units + 3 + 5 * k + 300 < _; exact om8 this⟩
set_option tactic.hygienic true in
mutual
noncomputable def ownD (σ : List O) : V -> Option D
  | .d x => some x
  | .a x => if nolist x then some x else none
  | .r i => match σ[i]? with
    | some (.lst l) => some (.lst l)
    | some (.dI l) => some (.dI l)
    | some (.dT l) => some (.dT l)
    | _ => none
  | .t l => match b7n σ l with
    | some l => some (.tup l)
    | none => none
noncomputable def b7n (σ : List O) : List V -> Option (List D)
  | [] => some []
  | v :: vs => match ownD σ v, b7n σ vs with
    | some x, some xs => some (x :: xs)
    | _, _ => none
end
section
variable {gl : Str -> Option Value} {X : Cx} {names : List Str} {ρ : List (Option V)} {σ : List O} {Λ Λ' Φ : Addr -> Prop} {ad : List Addr} {s : Shared} {h : Heap}
theorem St.new_phi (S : St gl X names ρ σ Λ ad s) {a : Addr} (l : Λ a) : ¬ X.Φ a := fun p => by
  obtain ⟨o, e⟩ := S.phi a p
  rw [S.new a l] at e; exact dNS e
theorem c8f (S : St gl X names ρ σ Λ ad s) {v : Value} {val : V} {x : D} (r : VRel gl s.heap Λ X.Φ ad v val) (e : ownD σ val = some x) : DRel gl s.heap X.Φ v x := by
  refine VRel.rec (motive_1 := fun v val ζ => ∀ x, ownD σ val = some x -> DRel gl s.heap X.Φ v x) (motive_2 := fun vs vals ζ => ∀ xs, b7n σ vals = some xs -> DRels gl s.heap X.Φ vs xs) ?_ ?_ ?_ ?_ ?_ ?_ r x e
  . intro v x r y e; cases Option.some.inj (e : some x = some y); exact r.keep (.weak fun ζ h => .inr h)
  . intro v x r y e
    simp only [ownD] at e
    split at e
    . cases e; exact r.nolist (by assumption)
    . exact dNS e
  . intro a i e' x e
    unfold ownD at e
    cases hs : σ[i]? with
    | none => rw [hs] at e; exact dNS e
    | some o =>
      rw [hs] at e
      cases o with
      | lst l => cases e; obtain ⟨hl, vs, n, h1, h2⟩ := S.objs i _ _ e' hs (by intro h; cases h); exact .lst h1 (S.new_phi hl) (h2.keep (.weak fun ζ h => .inr h))
      | dI l => cases e; obtain ⟨hl, vs, n, h1, h2, h3⟩ := S.objs i _ _ e' hs (by intro h; cases h); exact .dI h1 (S.new_phi hl) (h2.keep (.weak fun ζ h => .inr h)) h3
      | dT l => cases e; obtain ⟨hl, vs, n, h1, h2, h3⟩ := S.objs i _ _ e' hs (by intro h; cases h); exact .dT h1 (S.new_phi hl) (h2.keep (.weak fun ζ h => .inr h)) h3
      | lstV l => exact dNS e
      | dead => exact dNS e
  . intro a vs n l e' _ ih x e
    unfold ownD at e
    cases hs : b7n σ l with
    | none => rw [hs] at e; exact dNS e
    | some l' => rw [hs] at e; cases e; exact .tup e' (ih _ hs)
  . intro xs e; cases Option.some.inj (e : some [] = some xs); exact .nil
  . intro v y vs l _ _ iha ihb xs e
    unfold b7n at e
    cases h1 : ownD σ y with
    | none => rw [h1] at e; exact dNS e
    | some y =>
      cases h2 : b7n σ l with
      | none => rw [h1, h2] at e; exact dNS e
      | some ys => rw [h1, h2] at e; cases e; exact .cons (iha _ h1) (ihb _ h2)
end
noncomputable def outD (σ : List O) : Out -> Option D
  | .next => some .none
  | .ret v => ownD σ v
noncomputable def Fun (W : World0) (k : Nat) (f : String) (args : List V) (R : D -> Prop) : Prop :=
  ∀ A s vs Φ, Room A k -> W.ok s.heap -> (∀ a, Φ a -> used s a) -> VRels W.gl s.heap noL Φ [] vs args -> ∀ a, W.gl (Str.ofString f) = some (.ref a) ->
    (∃ o fd, s.heap.get? a = some o /\ o.data = .func fd) /\
    wpAny (model W.p W.w) A (call (.ref a) vs) (fun v s' => ∃ r, R r /\ (∀ b o, s.heap.get? b = some o -> s'.heap.get? b = some o) /\ s'.os = s.os /\ s'.gens = s.gens /\ DRel W.gl s'.heap Φ v r) (fun ζ ζ => False) s
theorem a8l {kd : Str -> Option NameKind} : ∀ {binds : List (Str × Value)} {m : Str -> Option Value} {x : Str}, x ∉ binds.map (·.1) -> bindL kd binds m x = m x
  | [], m, x, _ => rfl
  | (n, v) :: r, m, x, h => by
    simp only [List.map_cons, List.mem_cons, not_or] at h
    unfold bindL
    erw [a8l h.2]
    split
    . simp [h.1]
    . rfl
theorem a8m {kd : Str -> Option NameKind} : ∀ {binds : List (Str × Value)} {m : Str -> Option Value} {x : Str}, x ∉ binds.map (·.1) -> bindC kd binds m x = m x
  | [], m, x, _ => rfl
  | (n, v) :: r, m, x, h => by
    simp only [List.map_cons, List.mem_cons, not_or] at h
    unfold bindC
    erw [a8m h.2]
    split
    . rfl
    . simp [h.1]
theorem b9l {kd : Str -> Option NameKind} {binds : List (Str × Value)} {x : Str} {v : Value} (nd : (binds.map (·.1)).Nodup) (hm : (x, v) ∈ binds) (hk : kd x = some .local) : ∀ {m : Str -> Option Value}, bindL kd binds m x = some v := by
  induction binds with
  | nil => exact nomatch hm
  | cons p r ih =>
    intro m
    obtain ⟨n1, n2⟩ := List.nodup_cons.mp nd
    rcases List.mem_cons.mp hm with rfl | hm
    . show bindL kd r _ x = some v
      erw [a8l n1, if_pos hk]; exact if_pos rfl
    . exact ih n2 hm
theorem b9m {kd : Str -> Option NameKind} {binds : List (Str × Value)} {x : Str} {v : Value} (nd : (binds.map (·.1)).Nodup) (hm : (x, v) ∈ binds) (hk : kd x ≠ some .local) : ∀ {m : Str -> Option Value}, bindC kd binds m x = some v := by
  induction binds with
  | nil => exact nomatch hm
  | cons p r ih =>
    intro m
    obtain ⟨n1, n2⟩ := List.nodup_cons.mp nd
    rcases List.mem_cons.mp hm with rfl | hm
    . show bindC kd r _ x = some v
      erw [a8m n1, if_neg hk]; exact if_pos rfl
    . exact ih n2 hm
set_option tactic.hygienic true in
theorem a3m : ∀ {l : List (Str × NameKind)} {acc : List (Str × Addr)} {x : Str} {n : Nat}, ((acc.lookup x).isSome = true ∨ (x, .cell) ∈ l) -> ((cellsFrom n l acc).lookup x).isSome = true
  | [], acc, x, n, h => by
    unfold cellsFrom
    rcases h with h | h
    . exact h
    . cases h
  | (y, kd) :: r, acc, x, n, h => by
    unfold cellsFrom
    split
    . rename_i hk
      refine a3m ?_
      by_cases hy : x = y
      . subst hy; left; simp
      . rcases h with h | h
        . left; erw [List.lookup_cons, show (x == y) = false by simpa using hy]; exact h
        . rcases List.mem_cons.mp h with e | h
          . cases e; exact absurd rfl hy
          . exact .inr h
    . rename_i hk
      refine a3m ?_
      rcases h with h | h
      . exact .inl h
      . rcases List.mem_cons.mp h with e | h
        . cases e; exact absurd rfl hk
        . exact .inr h
set_option tactic.hygienic true in
theorem a8n : ∀ {names : List Str} {x : Str} {i : Nat}, vis names x = some i -> names[i]? = some x
  | [], x, i, h => by exact dNS h
  | y :: ys, x, i, h => by
    unfold vis at h
    cases e : vis ys x with
    | some j => rw [e] at h; simp only [Option.some.injEq] at h; subst h; simpa using a8n e
    | none =>
      rw [e] at h
      simp only at h
      split at h
      . rename_i hb; cases h; simp [beq_iff_eq.mp hb]
      . exact dNS h
theorem c3r {args : List V} {n i : Nat} {val : V} (h : (args.map some ++ List.replicate n none)[i]? = some (some val)) : args[i]? = some val := by
  rcases Nat.lt_or_ge i args.length with hl | hl
  . rw [List.getElem?_append_left (by simpa using hl)] at h
    simpa using h
  . rw [List.getElem?_append_right (by simpa using hl)] at h
    rw [List.getElem?_replicate] at h
    split at h <;> simp at h
section
variable {W : World0} {k : Nat}
theorem Fun.startG {f : String} {cf : CF} {args : List V} {ad : List Addr} (hf : HasF W f cf) (hlen : args.length = cf.nparams) {A : Around} {s : Shared} {vs : List Value} {Φ : Addr -> Prop} (hdp : A.depth + 1 < recursionLimit) (hw : W.ok s.heap) (hΦ : ∀ a, Φ a -> used s a) (hnd' : ad.Nodup) (had : ∀ a ∈ ad, ∃ o, s.heap.get? a = some o) (rel : VRels W.gl s.heap noL Φ ad vs args) {a : Addr} (ha : W.gl (Str.ofString f) = some (.ref a)) {R : Result -> Shared -> Prop}
    (body : ∀ (names : List Str) (sc : Scope) (S : List Stmt) (X : Cx) (s₁ : Shared), isSs names sc cf.body S = true -> KindsOk X.env sc -> X.A = A.deeper X.env -> X.hB = s.heap -> X.os = s.os -> X.gens = s.gens -> X.Φ = Φ -> X.env.frame = some X.env.locals -> St W.gl X names (args.map some ++ List.replicate (cf.nvars - cf.nparams) none) (ad.map fun ζ => O.dead) (fun a => a = X.env.locals) ad s₁ ->
      wpAny (model W.p W.w) X.A (execs S X.env) (fun fl s' => R (.ok (.ret (match fl with | .ret v => v | _ => .none))) s') (fun e s' => wpAny (model W.p W.w) X.A (leaving X.env e) (fun ζ s'' => R (.error e) s'') (fun e' s'' => R (.error e') s'') s') s₁) :
    (∃ o fd, s.heap.get? a = some o /\ o.data = .func fd) /\ codeAny (model W.p W.w) A (.call (.ref a) ⟨vs, []⟩) R s := by
  obtain ⟨d, hd, hname, hf⟩ := hf
  refine b1p (hw.fn d hd) fun a' o pm code doc hg ho hdat hcr => ?_
  have hg' : W.gl d.name = some (.ref a') := hg
  rw [hname, ha] at hg'
  cases hg'
  refine ⟨⟨o, _, ho, hdat⟩, ?_⟩
  unfold isF at hf
  simp only [Bool.and_eq_true, decide_eq_true_eq, List.all_eq_true, beq_iff_eq, List.isEmpty_iff, Option.isNone_iff_eq_none] at hf
  obtain ⟨⟨⟨⟨⟨⟨⟨hps, hp1⟩, hp2⟩, hp3⟩, hp4⟩, hp5⟩, hp6⟩, ⟨⟨⟨⟨⟨hn1, hn2⟩, hn3⟩, hn4⟩, hn5⟩, hbody⟩⟩ := hf
  unfold a2b at hps
  simp only [Bool.and_eq_true, beq_iff_eq, Bool.not_eq_true'] at hps
  obtain ⟨⟨hkd, hgn⟩, hco⟩ := hps
  have hvl : vs.length = d.params.args.length := by erw [rel.length, hlen, hn1]
  have hnd : (d.params.args.map (·.arg)).Nodup := by erw [hn3]; exact hn4.sublist (List.take_sublist _ _)
  have hbind := a9e (fd := Calls.docDef d.name d.params d.body d.scope pm code doc) (vals := vs) hp1 hp2 hp3 hp4 rfl hvl hnd
  have hmem : ∀ x : Str, x ∈ (d.scope.names.filter fun y => y.2 == .local || y.2 == .cell).map (·.1) -> d.scope.names.lookup x = some .local ∨ (d.scope.names.lookup x = some .cell /\ (x, NameKind.cell) ∈ d.scope.names) := fun x hx => by
    obtain ⟨⟨y, kd⟩, hy, rfl⟩ := List.mem_map.mp hx
    obtain ⟨hy1, hy2⟩ := List.mem_filter.mp hy
    have := (hn5 _ hy1).2
    simp only [Bool.or_eq_true, beq_iff_eq] at hy2
    rcases hy2 with h | h
    . left; erw [this]; exact congrArg some h
    . right; erw [this]; subst h; exact ⟨rfl, hy1⟩
  have hbm : ∀ x ∈ (d.params.args.map (·.arg)).zip vs, x.1 ∈ (d.scope.names.filter fun y => y.2 == .local || y.2 == .cell).map (·.1) := fun x hx => by
    have := (List.of_mem_zip hx).1
    rw [hn3] at this
    exact List.mem_of_mem_take this
  refine call_cells (Nat.lt_of_succ_lt hdp) ho hdat hw.nolimit hcr hbind (fun x hx => ?_) (fun h₁ tk F C => ?_) hco hgn hkd
  . rcases hmem x.1 (hbm x hx) with h | ⟨h1, h2⟩
    . exact .inl h
    . exact .inr ⟨h1, a3m (.inr h2)⟩
  . let env := envOfC d.name d.scope s.heap.objs.size a code
    let X : Cx := { env := env, hB := s.heap, A := A.deeper env, os := s.os, gens := s.gens, Φ := Φ }
    have hbf : ((d.params.args.map (·.arg)).zip vs).map (·.1) = d.params.args.map (·.arg) := List.map_fst_zip (by simp [hvl])
    have K : Keep noL (fun a => a = s.heap.objs.size) s.heap h₁ := ⟨fun a vs n e => F.keep a _ e, fun a o ζ ζ e => F.keep a o e, fun a o ζ ζ e h => (by
      subst h; rw [a0l] at e; exact dNS e)⟩
    have rel₁ : VRels W.gl h₁ (fun a => a = s.heap.objs.size) Φ ad vs args := rel.keep K fun ζ ζ e => e
    have S : St W.gl X ((d.scope.names.filter fun y => y.2 == .local || y.2 == .cell).map (·.1)) (args.map some ++ List.replicate (cf.nvars - cf.nparams) none) (ad.map fun ζ => O.dead) (fun a => a = s.heap.objs.size) ad { s with heap := h₁, toks := tk } := by
      refine ⟨F.keep, rfl, rfl, fun a h => by subst h; exact a0l _, fun a h => ?_, fun a h => hΦ a h, hnd', (List.length_map _).symm, fun a h => ?_, fun i a o ζ e hd => ?_, rfl, fun h => ?_, fun x c ζ hc => ?_, ?_, ?_⟩
      . subst h; obtain ⟨o, _, _, e, _⟩ := F.ns; exact ⟨o, e⟩
      . obtain ⟨o, e⟩ := had a h; exact ⟨o, F.keep a o e⟩
      . rw [List.getElem?_map] at e
        obtain ⟨_, _, rfl⟩ := Option.map_eq_some_iff.mp e
        exact absurd rfl hd
      . obtain ⟨o, e⟩ := had _ h
        have e' : s.heap.get? s.heap.objs.size = some o := e
        rw [a0l] at e'; exact dNS e'
      . have := C.above x c (mem_of_lookup hc)
        cases e : s.heap.get? c with
        | none => rfl
        | some o => exact absurd (Nat.lt_trans this (Heap.lt_size e)) (Nat.lt_irrefl _)
      . have h1 := congrArg List.length hn3
        simp only [List.length_map, List.length_take] at h1
        simp only [List.length_append, List.length_map, List.length_replicate]
        simp only [List.length_map] at hn2
        exact om9 hlen hn2 hn1 h1
      . refine ⟨_, _, F.ns, C.cell, fun x i val hv hi => ?_⟩
        have hi' := c3r hi
        have hx := a8n hv
        have hlt : i < cf.nparams := by erw [← hlen]; exact (List.getElem?_eq_some_iff.mp hi').1
        have hx' : (d.params.args.map (·.arg))[i]? = some x := by erw [hn3, List.getElem?_take_of_lt hlt]; exact hx
        refine xEA (rel₁.get hi') fun v hv' rv => ?_
        have hz : (x, v) ∈ (d.params.args.map (·.arg)).zip vs := List.mem_of_getElem? (i := i) (by rw [List.getElem?_zip_eq_some]; exact ⟨hx', hv'⟩)
        refine ⟨fun hl => ⟨v, b9l (by show (((d.params.args.map (·.arg)).zip vs).map (·.1)).Nodup; erw [hbf]; exact hnd) hz hl, rv⟩, fun hl => ?_⟩
        have hne : env.kindOf x ≠ some .local := by rcases hl with h | h <;> (erw [show env.kindOf x = _ from h]; intro h'; cases h')
        rcases hmem x (hbm _ hz) with h | ⟨h1, h2⟩
        . exact absurd h hne
        . have := a3m (n := s.heap.objs.size + 1) (acc := []) (.inr h2)
          refine xE (Option.isSome_iff_exists.mp this) fun c hc => ?_
          exact ⟨c, v, hc, b9m (by show (((d.params.args.map (·.arg)).zip vs).map (·.1)).Nodup; erw [hbf]; exact hnd) hz hne, rv⟩
    have hk : KindsOk X.env d.scope := ⟨hkd, rfl, rfl, fun ζ h => h, fun ζ h => h, fun ζ h => h, fun ζ => C.apart, fun x h => by
        rcases h with h | h
        . exact Option.isSome_iff_exists.mp (a3m (.inr (mem_of_lookup h)))
        . have := (hn5 _ (mem_of_lookup h)).1
          simp at this, fun ζ h => h⟩
    exact body _ d.scope d.body X _ hbody hk rfl rfl rfl rfl rfl rfl S
theorem Fun.start {f : String} {cf : CF} {args : List V} (hf : HasF W f cf) (hlen : args.length = cf.nparams) {A : Around} {s : Shared} {vs : List Value} {Φ : Addr -> Prop} (hr : Room A (k + 1)) (hw : W.ok s.heap) (hΦ : ∀ a, Φ a -> used s a) (rel : VRels W.gl s.heap noL Φ [] vs args) {a : Addr} (ha : W.gl (Str.ofString f) = some (.ref a)) {R : Result -> Shared -> Prop}
    (body : ∀ (names : List Str) (sc : Scope) (S : List Stmt) (X : Cx) (Λ : Addr -> Prop) (s₁ : Shared), isSs names sc cf.body S = true -> KindsOk X.env sc -> Room X.A k -> X.A = A.deeper X.env -> X.hB = s.heap -> X.os = s.os -> X.gens = s.gens -> X.Φ = Φ -> X.env.frame = some X.env.locals -> St W.gl X names (args.map some ++ List.replicate (cf.nvars - cf.nparams) none) [] Λ [] s₁ ->
      wpAny (model W.p W.w) X.A (execs S X.env) (fun fl s' => R (.ok (.ret (match fl with | .ret v => v | _ => .none))) s') (fun e s' => wpAny (model W.p W.w) X.A (leaving X.env e) (fun ζ s'' => R (.error e) s'') (fun e' s'' => R (.error e') s'') s') s₁) :
    (∃ o fd, s.heap.get? a = some o /\ o.data = .func fd) /\ codeAny (model W.p W.w) A (.call (.ref a) ⟨vs, []⟩) R s :=
  Fun.startG hf hlen (by have := hr.2.1; exact om10 this) hw hΦ .nil (fun a h => absurd h List.not_mem_nil) rel ha fun names sc S X s₁ hb hk hA hB hos hgn hPh hfr St =>
    body names sc S X _ s₁ hb hk (hA ▸ hr.deeper X.env) hA hB hos hgn hPh hfr St
theorem Fun.intro {f : String} {cf : CF} {args : List V} {R : D -> Prop} (hf : HasF W f cf) (hlen : args.length = cf.nparams)
    (t : TS W k cf.body (args.map some ++ List.replicate (cf.nvars - cf.nparams) none) [] fun out ζ σ' => ∃ r, outD σ' out = some r /\ R r) : Fun W (k + 1) f args R :=
  fun A s vs Φ hr hw hΦ rel a ha => by
    obtain ⟨ho, hc⟩ := Fun.start hf hlen hr hw hΦ rel ha (R := wants (fun v s' => ∃ r, R r /\ (∀ b o, s.heap.get? b = some o -> s'.heap.get? b = some o) /\ s'.os = s.os /\ s'.gens = s.gens /\ DRel W.gl s'.heap Φ v r) (fun ζ ζ => False)) fun names sc S X Λ s₁ hb hk hrx hA hB hos hgn hPh hfr St => by
      refine wpAny_mono (t _ sc S hb X hk hrx (hB ▸ hw) _ _ _ St) (fun fl s' h => ?_) fun ζ ζ f => f.elim
      obtain ⟨out, ρ', σ', Λ', ad', S', P', fr, r, ho, hR⟩ := h
      refine ⟨r, hR, hB ▸ S'.keep, hos ▸ S'.os, hgn ▸ S'.gens, ?_⟩
      cases fr with
      | next => simp only [outD, Option.some.injEq] at ho; subst ho; exact .none
      | ret rv => exact hPh ▸ c8f S' rv ho
    exact ⟨ho, wpAny_call hc⟩
end
end Mine
end
section
open PySem PyProof.Rows PySem.SeqAt
namespace Mine
noncomputable def HasC (W : World0) (c : String) (i : Int) : Prop := valOf W.q (Str.ofString c) = some (.int i)
inductive ArgOk (σ : List O) : V -> V -> Prop
  | d (x : D) : ArgOk σ (.d x) (.d x)
  | a {v : V} {x : D} : a0i σ v = some x -> ArgOk σ v (.a x)
  | n {v : V} {x : D} : a0i σ v = some x -> nolist x = true -> ArgOk σ v (.d x)
inductive ArgsOk (σ : List O) : List V -> List V -> Prop
  | nil : ArgsOk σ [] []
  | cons {v w : V} {vs ws : List V} : ArgOk σ v w -> ArgsOk σ vs ws -> ArgsOk σ (v :: vs) (w :: ws)
inductive ArgOkN (σ : List O) : V -> V -> Prop
  | a {v : V} {x : D} : a0i σ v = some x -> ArgOkN σ v (.a x)
  | n {v : V} {x : D} : a0i σ v = some x -> nolist x = true -> ArgOkN σ v (.d x)
inductive ArgsOkN (σ : List O) : List V -> List V -> Prop
  | nil : ArgsOkN σ [] []
  | cons {v w : V} {vs ws : List V} : ArgOkN σ v w -> ArgsOkN σ vs ws -> ArgsOkN σ (v :: vs) (w :: ws)
section
variable {W : World0} {k : Nat} {A : Around} {s s' : Shared} {F : Addr -> Prop}
variable {X : Cx} {names : List Str} {ρ : List (Option V)} {σ : List O} {Λ : Addr -> Prop} {ad : List Addr}
theorem a4g (hk : KindsOk X.env sc) (hw : W.ok X.hB) (S : St W.gl X names ρ σ Λ ad s) {f : String} {x : Str} {pos : Pos} {v : Value} (hx : a1e sc f x = true) (hv : W.gl (Str.ofString f) = some v) {Q E : Value -> Shared -> Prop} (q : Q v s) :
    wpAny (model W.p W.w) X.A (eval (.Name x pos) X.env) Q E s := by
  unfold a1e at hx
  simp only [Bool.and_eq_true, beq_iff_eq, Bool.not_eq_true'] at hx
  obtain ⟨⟨rfl, h2⟩, h3⟩ := hx
  have T := W.keeps hw S.keep
  exact Calls.Name_function_global hk.kind (hk.glo _ h2) (Calls.loadGlobal_global (by erw [hk.glob]; exact T.g) hv q) h3
theorem TE.gc {c : String} {i : Int} {Q : V -> List O -> Prop} (hc : HasC W c i) (q : Q (.d (.int i)) σ) : TE W k (.gv c) ρ σ Q := fun names sc E he X hk hr hw Λ ad s S => by
  replace he := inv_gv he; obtain ⟨_, _, rfl, he⟩ := he
  . refine xEA (hw.const _ _ hc) fun v hv rd => ?_
    refine a4g hk hw S he hv ?_
    refine xEA (reads_int_inv (rd s.heap)) fun t e ζ => ?_
    subst e
    exact Post.here (t := s.toks) S (.d (.int _ _)) q
theorem c8g (S : St W.gl X names ρ σ Λ ad s) {v : Value} {val w : V} (r : VRel W.gl s.heap Λ X.Φ ad v val) (h : ArgOk σ val w) : VRel W.gl s.heap noL (Un Λ X.Φ) [] v w := by
  cases h with
  | d x => exact .d (r.dInv.keep (.weak fun ζ h => h.elim (fun f => f.elim) id))
  | a e => exact .a (a0r S r e)
  | n e n => exact .d ((a0r S r e).nolist n)
theorem b0p (S : St W.gl X names ρ σ Λ ad s) {vs : List Value} {vals ws : List V} (r : VRels W.gl s.heap Λ X.Φ ad vs vals) (h : ArgsOk σ vals ws) : VRels W.gl s.heap noL (Un Λ X.Φ) [] vs ws := by
  induction h generalizing vs with
  | nil => cases r; exact .nil
  | cons c _ ih => cases r with | cons a b => exact .cons (c8g S a c) (ih b)
theorem c3s (S : St W.gl X names ρ σ Λ ad s) {v : Value} {val w : V} (r : VRel W.gl s.heap Λ X.Φ ad v val) (h : ArgOkN σ val w) : VRel W.gl s.heap noL (used s) [] v w := by
  cases h with
  | a e => exact .a (a0r S r e)
  | n e n => exact .d ((a0r S r e).nolist n)
theorem b9n (S : St W.gl X names ρ σ Λ ad s) {vs : List Value} {vals ws : List V} (r : VRels W.gl s.heap Λ X.Φ ad vs vals) (h : ArgsOkN σ vals ws) : VRels W.gl s.heap noL (used s) [] vs ws := by
  induction h generalizing vs with
  | nil => cases r; exact .nil
  | cons c _ ih => cases r with | cons a b => exact .cons (c3s S a c) (ih b)
theorem a7u {f : String} {es : List CE} {sc : Scope} {x : Str} {px pos : Pos} {args : List Expr} {cf : CF} {Q : List V -> List O -> Prop} {QQ EE : Value -> Shared -> Prop} (hf : HasF W f cf) (hne : es ≠ [])
    (hx : a1e sc f x = true) (he : isEs names sc es args = true) (hk : KindsOk X.env sc) (hr : Room X.A k) (hw : W.ok X.hB) (S : St W.gl X names ρ σ Λ ad s) (t : TEs W k es ρ σ Q)
    (h : ∀ a vs s₁ vals σ₁ Λ₁ ad₁, W.gl (Str.ofString f) = some (.ref a) -> St W.gl X names ρ σ₁ Λ₁ ad₁ s₁ -> Step (a1c X.env) σ ad Λ s.heap σ₁ ad₁ Λ₁ s₁.heap -> VRels W.gl s₁.heap Λ₁ X.Φ ad₁ vs vals -> Q vals σ₁ ->
      wpAny (model W.p W.w) X.A (call (.ref a) vs) QQ EE s₁) :
    wpAny (model W.p W.w) X.A (eval (.Call (.Name x px) args [] pos) X.env) QQ EE s := by
  obtain ⟨d, hd, hn, _⟩ := hf
  refine b1p (hw.fn d hd) fun a o pm code doc hg ho hdat ζ => ?_
  have hg' : W.gl (Str.ofString f) = some (.ref a) := hn ▸ hg
  refine Call_ (a4g hk hw S hx hg' ?_)
  cases es with
  | nil => exact absurd rfl hne
  | cons e es =>
    have he' := he
    first | (replace he' := a0g he'; obtain ⟨y, ys, rfl, he'⟩ := he') | (replace he' := a0p he'; obtain ⟨rfl, he'⟩ := he')
    . skip
      simp only [Bool.and_eq_true] at he'
      refine callWith_def (o := o) hdat (wpAny_mono (t.run he hk hr hw S pos) (fun vs s₁ h₁ => ?_) fun ζ ζ f => f.elim) (a0m he'.1 _ _)
      obtain ⟨vals, σ₁, Λ₁, ad₁, S₁, P₁, r₁, q⟩ := h₁
      exact ⟨S₁.keep a o ho, h a vs s₁ vals σ₁ Λ₁ ad₁ hg' S₁ P₁ r₁ q⟩
inductive CallQ (W : World0) (k : Nat) (f : String) (vals : List V) (σ : List O) (Q : V -> List O -> Prop) : Prop
  | mk (args : List V) (R : D -> Prop) (h1 : ArgsOk σ vals args) (h2 : Fun W k f args R) (h3 : ∀ r, R r -> Q (.d r) σ) : CallQ W k f vals σ Q
theorem TE.call {f : String} {cf : CF} {es : List CE} {Q : V -> List O -> Prop} (hf : HasF W f cf) (hne : es ≠ []) (t : TEs W k es ρ σ fun vals σ' => CallQ W k f vals σ' Q) : TE W k (.call f es) ρ σ Q :=
  fun names sc E he X hk hr hw Λ ad s S => by
    replace he := a7t he; obtain ⟨_, _, _, _, rfl, he⟩ := he
    . simp only [Bool.and_eq_true] at he
      refine a7u hf hne he.1.1 he.1.2 hk hr hw S t fun a vs s₁ vals σ₁ Λ₁ ad₁ hg S₁ P₁ r₁ q => ?_
      obtain ⟨args, R, ha, F, q⟩ := q
      refine wpAny_mono (F X.A s₁ vs (Un Λ₁ X.Φ) hr (W.keeps hw S₁.keep) S₁.usedF (b0p S₁ r₁ ha) a hg).2 (fun v s₂ h₂ => ?_) fun ζ ζ f => f
      refine c5u h₂ fun r hR kp ho hgn dr => ?_
      exact Post.trans P₁ (Post.pure S₁ (.of_keeps kp ho hgn) (.d dr) (q r hR))
set_option tactic.hygienic true in
theorem TE.callR {f : String} {cf : CF} {es : List CE} {Q : V -> List O -> Prop} (hf : HasF W f cf) (hne : es ≠ []) (t : TEs W k es ρ σ fun vals σ' => ∃ args R, ArgsOkN σ' vals args /\ Fun W k f args R /\ ∀ r, R r -> ∃ l, r = .lst l /\ nolists l = true /\ Q (.r σ'.length) (σ' ++ [.lst l])) : TE W k (.call f es) ρ σ Q :=
  fun names sc E he X hk hr hw Λ ad s S => by
    replace he := a7t he; obtain ⟨_, _, _, _, rfl, he⟩ := he
    . simp only [Bool.and_eq_true] at he
      refine a7u hf hne he.1.1 he.1.2 hk hr hw S t fun a vs s₁ vals σ₁ Λ₁ ad₁ hg S₁ P₁ r₁ q => ?_
      refine a1f q fun args R ha F q => ?_
      refine wpAny_mono (F X.A s₁ vs (used s₁) hr (W.keeps hw S₁.keep) (fun ζ h => h) (b9n S₁ r₁ ha) a hg).2 (fun v s₂ h₂ => ?_) fun ζ ζ f => f
      refine c5u h₂ fun r hR kp ho hgn dr => ?_
      obtain ⟨l, rfl, hl, q⟩ := q r hR
      cases dr with
      | lst h1 h2 h3 =>
        rename_i b vs' n
        have hb : s₁.heap.get? b = Option.none := by
          cases e : s₁.heap.get? b with
          | none => rfl
          | some o => exact absurd ⟨o, e⟩ h2
        obtain ⟨S₂, P₂⟩ := S₁.live (.of_keeps kp ho hgn) hb (o := .lst l) (by intro h; cases h) (fun Λ' ad' K pre => ⟨vs', n, h1, h3.nolists hl⟩) ⟨_, h1⟩
        exact ⟨_, _, _, _, S₂, P₁.trans P₂, .r (by erw [← S₁.len]; simp), q⟩
end
end Mine
end
section
open PySem PyProof.Rows PySem.SeqAt
namespace Mine
noncomputable def thn (W : World0) (k : Nat) (ss : List CS) (Q : Out -> List (Option V) -> List O -> Prop) : Out -> List (Option V) -> List O -> Prop
  | .next, ρ, σ => TS W k ss ρ σ Q
  | .ret v, ρ, σ => Q (.ret v) ρ σ
noncomputable def TS1 (W : World0) (k : Nat) (c : CS) (ρ : List (Option V)) (σ : List O) (Q : Out -> List (Option V) -> List O -> Prop) : Prop :=
  ∀ names sc S, isS names sc c S = true -> ∀ X : Cx, KindsOk X.env sc -> Room X.A k -> W.ok X.hB -> ∀ Λ ad s, St W.gl X names ρ σ Λ ad s ->
    wpAny (model W.p W.w) X.A (exec S X.env) (PostS W.gl X names σ Λ ad s Q) (fun ζ ζ => False) s
section
variable {W : World0} {k : Nat} {A : Around} {s s' s'' : Shared} {F : Addr -> Prop} {sc : Scope}
variable {gl : Str -> Option Value} {X : Cx} {names : List Str} {ρ ρ' : List (Option V)} {σ σ' σ'' : List O} {Λ Λ' : Addr -> Prop} {ad ad' : List Addr} {Q : Out -> List (Option V) -> List O -> Prop}
theorem PostS.trans {f : Flow} (P : Step (a2n X.env) σ ad Λ s.heap σ' ad' Λ' s'.heap) (x : PostS gl X names σ' Λ' ad' s' Q f s'') : PostS gl X names σ Λ ad s Q f s'' := by
  obtain ⟨out, ρ₂, σ₂, Λ₂, ad₂, S₂, P₂, r, q⟩ := x
  exact ⟨out, ρ₂, σ₂, Λ₂, ad₂, S₂, P.trans P₂, r, q⟩
theorem TS.nil (q : Q .next ρ σ) : TS W k [] ρ σ Q := fun names sc S he X hk hr hw Λ ad s St => by
  first | (replace he := a1s he; obtain ⟨_, _, rfl, he⟩ := he) | (replace he := b6a he; obtain ⟨rfl, he⟩ := he)
  . exact wpAny_execs_nil ⟨.next, ρ, σ, Λ, ad, St, .refl, .next, q⟩
set_option tactic.hygienic true in
theorem TS.cons {c : CS} {ss : List CS} (t : TS1 W k c ρ σ (thn W k ss Q)) : TS W k (c :: ss) ρ σ Q := fun names sc S he X hk hr hw Λ ad s St => by
  first | (replace he := a1s he; obtain ⟨_, _, rfl, he⟩ := he) | (replace he := b6a he; obtain ⟨rfl, he⟩ := he)
  . rename_i x xs
    simp only [Bool.and_eq_true] at he
    refine wpAny_execs_cons (wpAny_mono (t names sc x he.1 X hk hr hw Λ ad s St) (fun f s₁ h₁ => ?_) fun ζ ζ f => f)
    obtain ⟨out, ρ₁, σ₁, Λ₁, ad₁, S₁, P₁, fr, q⟩ := h₁
    cases fr with
    | next => exact wpAny_mono (q names sc xs he.2 X hk hr hw Λ₁ ad₁ s₁ S₁) (fun f s₂ h₂ => h₂.trans P₁) fun ζ ζ f => f
    | ret r => exact ⟨_, ρ₁, σ₁, Λ₁, ad₁, S₁, P₁, .ret r, q⟩
theorem TS.mono {ss : List CS} {Q' : Out -> List (Option V) -> List O -> Prop} (t : TS W k ss ρ σ Q) (h : ∀ o a b, Q o a b -> Q' o a b) : TS W k ss ρ σ Q' :=
  fun names sc E he X hk hr hw Λ ad s S => wpAny_mono (t names sc E he X hk hr hw Λ ad s S) (fun v s' ⟨a, b, c, d, e, f, g, i, j⟩ => ⟨a, b, c, d, e, f, g, i, h _ _ _ j⟩) fun ζ ζ f => f
noncomputable def a1u (sc : Scope) (env : Env) (a : Addr) : Prop := a = env.locals ∨ ∃ x, sc.names.lookup x = some .cell /\ env.cells.lookup x = some a
theorem b6d {env : Env} {a : Addr} (h : a1u sc env a) : a2n env a := h.elim .inl fun ⟨x, _, h⟩ => .inr ⟨x, h⟩
theorem Step.ownS {h h' : Heap} (P : Step (a1u sc X.env) σ ad Λ h σ' ad' Λ' h') : Step (a2n X.env) σ ad Λ h σ' ad' Λ' h' := P.weak fun ζ h => b6d h
theorem St.own (S : St gl X names ρ σ Λ ad s) {z : Addr} (hze : a1u sc X.env z) (hb : X.hB.get? z = none) {h' : Heap} {t' : Nat} {m' cm' : Str -> Option Value} (hrl : ρ'.length = ρ.length)
    (hsame : ∀ b, b ≠ z -> h'.get? b = s.heap.get? b) (hex : ∃ o, h'.get? z = some o) (hn' : h'.Ns X.env.locals m') (hc' : ∀ n c, X.env.cells.lookup n = some c -> h'.IsCell c (cm' n))
    (hv' : ∀ (y : Str) (j : Nat) (u : V), vis names y = some j -> ρ'[j]? = some (some u) ->
        (X.env.kindOf y = some .local -> ∃ w, m' y = some w /\ VRel gl s.heap Λ X.Φ ad w u) /\
        (X.env.kindOf y = some .cell ∨ X.env.kindOf y = some .free -> ∃ c w, X.env.cells.lookup y = some c /\ cm' y = some w /\ VRel gl s.heap Λ X.Φ ad w u)) :
    St gl X names ρ' σ Λ ad { s with heap := h', toks := t' } /\ Step (a1u sc X.env) σ ad Λ s.heap σ ad Λ h' := by
  have hz := b6d hze
  have hdom : ∀ b o, s.heap.get? b = some o -> ∃ o', h'.get? b = some o' := fun b o e => by
    by_cases h : b = z
    . subst h; exact hex
    . erw [hsame b h]; exact ⟨o, e⟩
  have P : Step (a1u sc X.env) σ ad Λ s.heap σ ad Λ h' := ⟨fun a o ζ ne e => by erw [hsame a fun h => ne (h ▸ hze)]; exact e, hdom, fun ζ l => .inl l, fun ζ ζ e => e, fun ζ l => .inl l, fun ζ l => .inl l, fun ζ ζ ζ l ζ => l⟩
  have K := P.ownS.keepS S
  refine ⟨⟨fun b o e => ?_, S.os, S.gens, S.new, fun a l => ?_, S.phi, S.nd, S.len, fun a ha => ?_, fun j a o e1 e2 e3 => ?_, S.locL, S.locA, S.cellN, hrl.trans S.rl, m', cm', hn', hc', fun y j u h1 h2 => ?_⟩, P⟩
  . show h'.get? b = some o
    rw [hsame b fun h => by subst h; exact dGN hb e]; exact S.keep b o e
  . obtain ⟨o, e⟩ := S.lt a l; exact hdom a o e
  . obtain ⟨o, e⟩ := S.adl a ha; exact hdom a o e
  . obtain ⟨h1, h2⟩ := S.objs j a o e1 e2 e3
    refine ⟨h1, h2.keep K (fun ζ ζ e => e) fun ob e => ?_⟩
    show h'.get? a = some ob
    rw [hsame a fun h => ?_]
    . exact e
    . subst h
      rcases hz with rfl | ⟨y, hy⟩
      . exact S.locA (a0j e1)
      . refine a1f S.vars fun m cm ζ hc ζ => ?_
        obtain ⟨ob', e', d'⟩ := hc y a hy
        cases o with
        | lst l => obtain ⟨vs, n, e2, _⟩ := h2; rw [e'] at e2; cases e2; cases d'
        | dI l => obtain ⟨vs, n, e2, _⟩ := h2; rw [e'] at e2; cases e2; cases d'
        | dT l => obtain ⟨vs, n, e2, _⟩ := h2; rw [e'] at e2; cases e2; cases d'
        | lstV l => obtain ⟨vs, n, e2, _⟩ := h2; rw [e'] at e2; cases e2; cases d'
        | dead => exact e3 rfl
  . refine xA (hv' y j u h1 h2) fun a1 a2 => ?_
    refine ⟨fun h => ?_, fun h => ?_⟩
    . refine xEA (a1 h) fun w e1 r1 => ?_; exact ⟨w, e1, r1.keep K fun ζ ζ e => e⟩
    . refine a1f (a2 h) fun c w e0 e1 r1 => ?_; exact ⟨c, w, e0, e1, r1.keep K fun ζ ζ e => e⟩
theorem St.loc_base (S : St gl X names ρ σ Λ ad s) : X.hB.get? X.env.locals = none := S.new _ S.locL
theorem set_var {x y : Str} {i j : Nat} {val u : V} (hv : vis names x = some i) (h1 : vis names y = some j) (h2 : (ρ.set i (some val))[j]? = some (some u)) : (y = x /\ u = val) ∨ (y ≠ x /\ ρ[j]? = some (some u)) := by
  rcases set_get h2 with ⟨rfl, h⟩ | ⟨h, h'⟩
  . exact .inl ⟨a0q ((a8n h1).symm.trans (a8n hv)), a0q h⟩
  . exact .inr ⟨fun q => h (a0q ((q ▸ h1).symm.trans hv)), h'⟩
theorem St.store (S : St gl X names ρ σ Λ ad s) (hk : KindsOk X.env sc) {i : Nat} {x : Str} (hs : a1h names sc i x = true) {v : Value} {val : V} (r : VRel gl s.heap Λ X.Φ ad v val)
    {M : Model} {A : Around} {Q : Unit -> Shared -> Prop} {E : Value -> Shared -> Prop}
    (q : ∀ s', St gl X names (ρ.set i (some val)) σ Λ ad s' -> Step (a1u sc X.env) σ ad Λ s.heap σ ad Λ s'.heap -> Q () s') : wpAny M A (storeName X.env x v) Q E s := by
  unfold a1h at hs
  simp only [Bool.and_eq_true, Bool.or_eq_true, beq_iff_eq] at hs
  obtain ⟨hkd, hv⟩ := hs
  refine a1f S.vars fun m cm hn hc hvars => ?_
  rcases hkd with hl | hl
  . have hl' := hk.loc x hl
    refine wpAny_storeName_local hl' hn (fun h' hn' hs' => ?_) (by erw [hk.kind]; rfl)
    have hex : ∃ o, h'.get? X.env.locals = some o := let ⟨o, _, _, e, _⟩ := hn'; ⟨o, e⟩
    obtain ⟨S', P'⟩ := S.own (ρ' := ρ.set i (some val)) (t' := s.toks + 1) (sc := sc) (.inl rfl) S.loc_base (by simp) hs'.2 hex hn' (cm' := cm) (fun n c e => (hc n c e).sameBut hs' (a3l (hc n c e) hn)) (fun y j u h1 h2 => by
      rcases set_var hv h1 h2 with ⟨rfl, rfl⟩ | ⟨hy, h⟩
      . refine ⟨fun ζ => ⟨v, if_pos rfl, r⟩, fun h => ?_⟩
        rw [hl'] at h; rcases h with h | h <;> cases h
      . refine xA (hvars y j u h1 h) fun a1 a2 => ?_
        exact ⟨fun h => by refine xEA (a1 h) fun w e r' => ?_; exact ⟨w, by simp [hy, e], r'⟩, a2⟩)
    exact q _ S' P'
  . have hl' := hk.celS x hl
    obtain ⟨c, hcx⟩ := hk.celE x (.inl hl')
    refine wpAny_storeName_cell hk.kind hl' hcx (hc x c hcx) fun h' hv' hs' => ?_
    have hex : ∃ o, h'.get? c = some o := let ⟨o, e, _⟩ := hv'; ⟨o, e⟩
    have hcl : c ≠ X.env.locals := a3l (hc x c hcx) hn
    obtain ⟨S', P'⟩ := S.own (ρ' := ρ.set i (some val)) (t' := s.toks) (.inr ⟨x, hl, hcx⟩) (S.cellN x c hl' hcx) (by simp) hs'.2 hex (hn.sameBut hs' (Ne.symm hcl)) (cm' := fun y => if y = x then some v else cm y) (fun n c' e => by
        by_cases hnx : n = x
        . subst hnx; rw [hcx] at e; cases e; simpa using hv'
        . simp only [hnx, if_false]
          exact (hc n c' e).sameBut hs' fun h => hnx (name_of_addr (hk.apart ⟨x, hl⟩) (mem_of_lookup e) (h ▸ mem_of_lookup hcx))) (fun y j u h1 h2 => by
      rcases set_var hv h1 h2 with ⟨rfl, rfl⟩ | ⟨hy, h⟩
      . refine ⟨fun h => ?_, fun ζ => ⟨c, v, hcx, if_pos rfl, r⟩⟩
        rw [hl'] at h; cases h
      . refine xA (hvars y j u h1 h) fun a1 a2 => ?_
        exact ⟨a1, fun h => by refine a1f (a2 h) fun c' w e0 e r' => ?_; exact ⟨c', w, e0, by simp [hy, e], r'⟩⟩)
    exact q _ S' P'
end
end Mine
end
section
open PySem PyProof.Rows PySem.SeqAt
namespace Mine
noncomputable def a3r (ρ : List (Option V)) : List Nat -> List V -> List (Option V)
  | i :: is, v :: vs => a3r (ρ.set i (some v)) is vs
  | _, _ => ρ
noncomputable def a1v (e : CE) : Bool := !Nat.beq (ixOf e) 8
noncomputable def b6e (e : CE) : Bool := !Nat.beq (ixOf e) 25 && !Nat.beq (ixOf e) 8
noncomputable def frz (j : Nat) (x : D) : Option V -> Option V
  | some (.r i) => if i = j then some (.d x) else some (.r i)
  | o => o
section
variable {W : World0} {k : Nat} {A : Around} {s s' s'' : Shared} {F : Addr -> Prop} {sc : Scope}
variable {gl : Str -> Option Value} {X : Cx} {names : List Str} {ρ ρ' : List (Option V)} {σ σ' σ'' : List O} {Λ Λ' : Addr -> Prop} {ad ad' : List Addr} {Q : Out -> List (Option V) -> List O -> Prop}
theorem a1p {e : CE} {E : Expr} (he : isE names sc e E = true) (hn : a1v e = true) (t : Option Expr) (l : Nat) (env : Env) : swapsWith E t l env = pure false := by
  cases E with
  | ListComp a b c d =>
    unfold a1v at hn
    rw [← c3l he] at hn
    exact ff hn
  | SetComp a b c d => exact b2e he rfl
  | DictComp a b c d e' => exact b2e he rfl
  | _ => rfl
theorem Post.toS {Q : Out -> List (Option V) -> List O -> Prop} {f : Flow} {v : Value} {Q' : V -> List O -> Prop} (p : Post gl X names ρ σ Λ ad s Q' v s') (h : ∀ val σ', Q' val σ' -> Q (.ret val) ρ σ') : PostS gl X names σ Λ ad s Q (.ret v) s' := by
  obtain ⟨val, σ₁, Λ₁, ad₁, S₁, P₁, r, q⟩ := p
  exact ⟨_, ρ, σ₁, Λ₁, ad₁, S₁, P₁.own, .ret r, h _ _ q⟩
theorem TS1.asg {i : Nat} {e : CE} (t : TE W k e ρ σ fun v σ' => Q .next (ρ.set i (some v)) σ') (hn : a1v e = true := by rfl) : TS1 W k (.asg i e) ρ σ Q := fun names sc S he X hk hr hw Λ ad s St => by
  replace he := a8f he; obtain ⟨_, _, _, _, rfl, he⟩ := he
  . simp only [Bool.and_eq_true] at he
    refine wpAny_Assign_Name (wpAny_mono (t names sc _ he.2 X hk hr hw Λ ad s St) (fun v s₁ h₁ => ?_) fun ζ ζ f => f) (a1p he.2 hn _ _ _)
    obtain ⟨val, σ₁, Λ₁, ad₁, S₁, P₁, r, q⟩ := h₁
    exact S₁.store hk he.1 r fun s₂ S₂ P₂ => ⟨.next, _, _, _, _, S₂, P₁.own.trans P₂.ownS, .next, q⟩
theorem TS1.ret {e : CE} (t : TE W k e ρ σ fun v σ' => Q (.ret v) ρ σ') : TS1 W k (.ret e) ρ σ Q := fun names sc S he X hk hr hw Λ ad s St => by
  replace he := b4g he; obtain ⟨_, _, rfl, he⟩ := he
  . exact wpAny_Return_some (wpAny_mono (t names sc _ he X hk hr hw Λ ad s St) (fun v s₁ h₁ => h₁.toS (f := .ret v) fun ζ ζ q => q) fun ζ ζ f => f)
theorem TS1.ex {e : CE} (t : TE W k e ρ σ fun v σ' => Q .next ρ σ') (hn : a1v e = true := by rfl) : TS1 W k (.ex e) ρ σ Q := fun names sc S he X hk hr hw Λ ad s St => by
  replace he := c6h he; obtain ⟨_, _, rfl, he⟩ := he
  . refine wpAny_Expr_any (wpAny_mono (t names sc _ he X hk hr hw Λ ad s St) (fun v s₁ h₁ => ?_) fun ζ ζ f => f) ?_ (a1p he hn _ _ _)
    . obtain ⟨val, σ₁, Λ₁, ad₁, S₁, P₁, r, q⟩ := h₁
      exact ⟨.next, ρ, _, _, _, S₁, P₁.own, .next, q⟩
    . unfold interactive; erw [hk.kind]; rfl
theorem TS1.ite {c : CE} {a b : List CS} (t : TC W k c ρ σ fun v σ' => if v then TS W k a ρ σ' Q else TS W k b ρ σ' Q) : TS1 W k (.ite c a b) ρ σ Q := fun names sc S he X hk hr hw Λ ad s St => by
  replace he := b9b he; obtain ⟨_, _, _, _, rfl, he⟩ := he
  . simp only [Bool.and_eq_true] at he
    refine wpAny_If (wpAny_mono (t names sc _ he.1.1 X hk hr hw Λ ad s St) (fun v s₁ h₁ => ?_) fun ζ ζ f => f)
    obtain ⟨σ₁, Λ₁, ad₁, S₁, P₁, q⟩ := h₁
    cases v with
    | true => exact wpAny_mono (q names sc _ he.1.2 X hk hr hw Λ₁ ad₁ s₁ S₁) (fun f s₂ h₂ => h₂.trans P₁.own) fun ζ ζ f => f
    | false => exact wpAny_mono (q names sc _ he.2 X hk hr hw Λ₁ ad₁ s₁ S₁) (fun f s₂ h₂ => h₂.trans P₁.own) fun ζ ζ f => f
theorem TS.freeze {ss : List CS} {j : Nat} {l : List D} (hj : σ[j]? = some (.lst l)) (t : TS W k ss (ρ.map (frz j (.lst l))) (σ.set j .dead) Q) : TS W k ss ρ σ Q := fun names sc S he X hk hr hw Λ ad s St' => by
  have hlt : j < ad.length := by erw [St'.len]; exact (List.getElem?_eq_some_iff.mp hj).1
  obtain ⟨a, ea⟩ : ∃ a, ad[j]? = some a := ⟨ad[j], List.getElem?_eq_getElem hlt⟩
  obtain ⟨hΛ, vs, n, h1, h2⟩ := St'.objs j a _ ea hj (by intro h; cases h)
  have K : Keep Λ (fun b => Λ b /\ b ≠ a) s.heap s.heap := .weak fun b h => h.1
  have hL : X.env.locals ≠ a := fun h => St'.locA (h ▸ a0j ea)
  have S₁ : St W.gl X names (ρ.map (frz j (.lst l))) (σ.set j .dead) (fun b => Λ b /\ b ≠ a) ad s := by
    refine ⟨St'.keep, St'.os, St'.gens, fun b h => St'.new b h.1, fun b h => St'.lt b h.1, St'.phi, St'.nd, by simp [St'.len], St'.adl, fun i b o e1 e2 e3 => ?_, ⟨St'.locL, hL⟩, St'.locA, St'.cellN, by simp [St'.rl], ?_⟩
    . rcases set_get e2 with ⟨rfl, rfl⟩ | ⟨hne, e2'⟩
      . exact absurd rfl e3
      . obtain ⟨g1, g2⟩ := St'.objs i b o e1 e2' e3
        exact ⟨⟨g1, fun h => hne (b2j St'.nd e1 (h ▸ ea))⟩, g2.keep K (fun ζ ζ e => e) fun ζ e => e⟩
    . refine a1f St'.vars fun m cm hn hc hv => ?_
      have conv : ∀ {v : Value} {o : Option V} {u : V}, frz j (.lst l) o = some u -> (∀ u₀, o = some u₀ -> VRel W.gl s.heap Λ X.Φ ad v u₀) -> VRel W.gl s.heap (fun b => Λ b /\ b ≠ a) X.Φ ad v u := fun {v o u} hf hr => by
        cases o with
        | none => exact dNS hf
        | some u₀ =>
          have r := hr u₀ rfl
          cases u₀ with
          | r i =>
            rcases ite_or (c := i = j) hf with ⟨rfl, hg⟩ | ⟨_, hg⟩
            . obtain rfl := a0q hg
              cases r with
              | r e =>
                rw [ea] at e; cases e
                exact .d (.lst h1 (fun h => h.elim (fun h => h.2 rfl) (St'.new_phi hΛ)) (h2.keep K.un))
            . exact a0q hg ▸ r.keep K fun ζ ζ e => e
          | d x => exact a0q hf ▸ r.keep K fun ζ ζ e => e
          | a x => exact a0q hf ▸ r.keep K fun ζ ζ e => e
          | t x => exact a0q hf ▸ r.keep K fun ζ ζ e => e
      refine ⟨m, cm, hn, hc, fun x i val e1 e2 => ?_⟩
      rw [List.getElem?_map] at e2
      cases e0 : ρ[i]? with
      | none => rw [e0] at e2; exact dNS e2
      | some o =>
        rw [e0] at e2
        simp only [Option.map_some, Option.some.injEq] at e2
        have he0 : ∃ u₀, o = some u₀ := by
          cases o with
          | none => exact dNS e2
          | some u => exact ⟨u, rfl⟩
        obtain ⟨u₀, rfl⟩ := he0
        refine xA (hv x i u₀ e1 e0) fun a1 a2 => ?_
        refine ⟨fun h => ?_, fun h => ?_⟩
        . refine xEA (a1 h) fun v g1 g2 => ?_
          exact ⟨v, g1, conv e2 fun u hu => by cases hu; exact g2⟩
        . refine a1f (a2 h) fun c v g0 g1 g2 => ?_
          exact ⟨c, v, g0, g1, conv e2 fun u hu => by cases hu; exact g2⟩
  have P₁ : Step (a2n X.env) σ ad Λ s.heap (σ.set j .dead) ad (fun b => Λ b /\ b ≠ a) s.heap := ⟨fun ζ ζ ζ ζ e => e, fun ζ o e => ⟨o, e⟩, fun ζ l => .inl l.1, fun ζ ζ e => e, fun b l => by
    obtain ⟨i, o, e1, e2, e3⟩ := l
    rcases set_get e2 with ⟨rfl, rfl⟩ | ⟨hne, e2'⟩
    . exact absurd rfl e3
    . exact .inl ⟨i, o, e1, e2', e3⟩, fun ζ l => .inl l, fun b ζ ζ l nl => ⟨l, fun h => nl ⟨j, _, h ▸ ea, hj, by intro h; cases h⟩⟩⟩
  exact wpAny_mono (t names sc S he X hk hr hw _ ad s S₁) (fun f s₂ h₂ => h₂.trans P₁) fun ζ ζ f => f
theorem a5k {i : Nat} {is : List Nat} {ts : List Expr} (h : a0v names sc (i :: is) ts = true) : ∃ x px ts', ts = .Name x px :: ts' /\ a1h names sc i x = true /\ a0v names sc is ts' = true := by
  apply a1d h; intro t ts h
  apply a1r h; intro x px h
  exact ⟨x, px, ts, rfl, (Bool.and_eq_true_iff.mp h).1, (Bool.and_eq_true_iff.mp h).2⟩
theorem a6c {ts : List Expr} (h : a0v names sc [] ts = true) : ts = [] := by
  cases ts with
  | nil => rfl
  | cons _ _ => exact ff h
set_option tactic.hygienic true in
theorem St.stores (hk : KindsOk X.env sc) {M : Model} {A : Around} {E : Value -> Shared -> Prop} {is : List Nat} : ∀ {ts : List Expr} {vs : List Value} {vals : List V} {ρ : List (Option V)} {s : Shared} {QQ : Unit -> Shared -> Prop}, St gl X names ρ σ Λ ad s ->
    a0v names sc is ts = true -> VRels gl s.heap Λ X.Φ ad vs vals -> vs.length = ts.length ->
    (∀ s', St gl X names (a3r ρ is vals) σ Λ ad s' -> Step (a1u sc X.env) σ ad Λ s.heap σ ad Λ s'.heap -> QQ () s') -> wpAny M A (assignInOrder ((assignEach ts X.env).map (·.2)) vs) QQ E s := by
  induction is with
  | nil =>
    intro ts vs vals ρ s QQ S ht r hl q
    have := a6c ht
    subst this
    have : vs = [] := List.length_eq_zero_iff.mp hl
    subst this
    cases r
    exact wpAny_pure (q s S .refl)
  | cons i is ih =>
    intro ts vs vals ρ s QQ S ht r hl q
    obtain ⟨x, px, ts', rfl, h1, h2⟩ := a5k ht
    cases r with
    | nil => simp at hl
    | cons rv rs =>
      rename_i v val vs vals
      show wpAny M A (do holding vs (assign (.Name x px) X.env v); assignInOrder ((assignEach ts' X.env).map (·.2)) vs) QQ E s
      refine wpAny_bind (wpAny_holding (wpAny_assign_Name (S.store hk h1 rv fun s₁ S₁ P₁ => ?_)))
      exact ih S₁ h2 (rs.keep (P₁.ownS.keepS S) fun ζ ζ e => e) (by simpa using hl) fun s₂ S₂ P₂ => q s₂ S₂ (P₁.trans P₂)
theorem b2l {env : Env} {is : List Nat} : ∀ {ts : List Expr}, a0v names sc is ts = true -> (assignEach ts env).length = ts.length /\ (assignEach ts env).findIdx? (·.1) = none /\ ts.length = is.length := by
  induction is with
  | nil => intro ts ht; have := a6c ht; subst this; exact ⟨rfl, rfl, rfl⟩
  | cons i is ih =>
    intro ts ht
    obtain ⟨x, px, ts', rfl, h1, h2⟩ := a5k ht
    refine xAA (ih h2) fun g1 g2 g3 => ?_
    refine ⟨?_, ?_, by simp [g3]⟩
    . show (assignEach ts' env).length + 1 = _; erw [g1]; rfl
    . show List.findIdx? _ ((false, assign (.Name x px) env) :: assignEach ts' env) = none
      erw [List.findIdx?_cons]; simp [g2]
theorem c3t {L : Addr} {h' : Heap} (h : Heap.ExtBut s.heap.objs.size s.heap h') : Kept L s { s with heap := h' } :=
  .of_keeps (fun a o e => h a o (Nat.ne_of_lt (Heap.lt_size e)) e) rfl rfl
theorem St.unpack (S : St W.gl X names ρ σ Λ ad s) (hk : KindsOk X.env sc) (hr : Room X.A k) {is : List Nat} {ts : List Expr} {kk pos} (ht : a0v names sc is ts = true) {v : Value} {val : V} {l : List V} (r : VRel W.gl s.heap Λ X.Φ ad v val) (e : seqV σ val = some (false, l)) (hl : l.length = is.length)
    {QQ : Unit -> Shared -> Prop} {E : Value -> Shared -> Prop} (q : ∀ s', St W.gl X names (a3r ρ is l) σ Λ ad s' -> Step (a1u sc X.env) σ ad Λ s.heap σ ad Λ s'.heap -> QQ () s') : wpAny (model W.p W.w) X.A (assign (.Tuple ts kk pos) X.env v) QQ E s := by
  obtain ⟨a, vs, n, rfl, h1, h2⟩ := b4j S r e
  refine xAA (b2l (env := X.env) ht) fun t1 t2 t3 => ?_
  have h1' : s.heap.get? a = some (TO vs n) := h1
  refine wpAny_assign_Tuple hr.1 (a0e h1') (by erw [t1, List.size_toArray, h2.length, hl, t3]) t2 fun h' he => ?_
  have kk := c3t (L := X.env.locals) he
  have P₀ := Step.of_kept S kk
  refine St.stores hk (S.kept kk) ht (h2.step S P₀) (by erw [h2.length, hl, t3]) fun s' S' P' => q s' S' ((P₀.weak fun ζ h => .inl h).trans P')
theorem TS1.asgT {is : List Nat} {e : CE} (t : TE W k e ρ σ fun v σ' => ∃ l, seqV σ' v = some (false, l) /\ l.length = is.length /\ Q .next (a3r ρ is l) σ') (hn : b6e e = true := by rfl) : TS1 W k (.asgT is e) ρ σ Q := fun names sc S he X hk hr hw Λ ad s St => by
  replace he := c3i he; obtain ⟨ts, kk, pos', v, pos, rfl, he⟩ := he
  . skip
    simp only [Bool.and_eq_true] at he
    refine Assign_Tuple (wpAny_mono (t names sc _ he.1.2 X hk hr hw Λ ad s St) (fun v s₁ h₁ => ?_) fun ζ ζ f => f) (by show swapsWith v (some (.Tuple ts kk pos')) pos.line X.env = pure false; exact a1p he.1.2 (Bool.and_eq_true_iff.mp hn).2 _ _ _) ?_
    . obtain ⟨val, σ₁, Λ₁, ad₁, S₁, P₁, r, l, e, hl, q⟩ := h₁
      exact S₁.unpack hk hr he.1.1 r e hl fun s₂ S₂ P₂ => ⟨.next, _, _, _, _, S₂, P₁.own.trans P₂.ownS, .next, q⟩
    . have hE := he.1.2
      cases v with
      | Tuple a b c =>
        unfold b6e at hn
        rw [← c3l hE] at hn
        exact ff hn
      | _ => rfl
end
end Mine
end
section
open PySem PyProof.Rows PySem.SeqAt
namespace Mine
noncomputable def a3s (n : String) : Prop := (["enumerate", "zip", "dict_itemiterator", "dict_reverseitemiterator", "odict_iterator", "itertools.zip_longest", "itertools.pairwise"].contains n) = false
noncomputable def isIter (h : Heap) (I : Addr) : Prop := ∃ o vs n, h.get? I = some o /\ o.cls = .type n /\ o.data = .fields vs /\ a3s n
theorem c8h : a3s "list_iterator" := by unfold a3s; decide
theorem c3u : a3s "tuple_iterator" := by unfold a3s; decide
theorem c3v : a3s "range_iterator" := by unfold a3s; decide
noncomputable def stable (ex : Addr -> Prop) (σ : List O) (ad : List Addr) (Λ : Addr -> Prop) (h : Heap) (b : Addr) : Prop := (∃ vs n, h.get? b = some (TO vs n)) ∨ (¬ Λ b /\ ∃ o, a6s o /\ h.get? b = some o) ∨ (¬ a2w σ ad b /\ ¬ ex b /\ ∃ o, h.get? b = some o)
inductive Wk (W : World0) (A : Around) (ex : Addr -> Prop) (σ : List O) (Λ Φ : Addr -> Prop) (ad : List Addr) (s₁ s₂ : Shared) (it : Value) (l : List V) : Prop
  | mk (I : Addr) (fp : List Addr) (P : Nat -> Value -> Prop) (Sg : Nat -> Heap -> Prop) (h1 : it = .ref I) (h2 : s₁.heap.get? I = none) (h3 : Walks W.p W.w A I fp [I] l.length P Sg) (h4 : Sg 0 s₂.heap)
    (h5 : ∀ b ∈ fp, b = I ∨ stable ex σ ad Λ s₁.heap b) (h6 : ∀ i h, Sg i h -> isIter h I) (h7 : ∀ b o, s₁.heap.get? b = some o -> s₂.heap.get? b = some o) (h8 : s₂.os = s₁.os) (h9 : s₂.gens = s₁.gens)
    (h10 : ∀ i v x, P i v -> l[i]? = some x -> ∀ Λ' ad' h', Keep Λ Λ' s₁.heap h' -> (∀ (i : Nat) (a : Addr), ad[i]? = some a -> ad'[i]? = some a) -> VRel W.gl h' Λ' Φ ad' v x) : Wk W A ex σ Λ Φ ad s₁ s₂ it l
noncomputable def notLive : V -> Bool
  | .r _ => false
  | _ => true
inductive PostI (W : World0) (X : Cx) (names : List Str) (ρ : List (Option V)) (σ : List O) (Λ : Addr -> Prop) (ad : List Addr) (s : Shared) (Q : List V -> List O -> Prop) (s₁ : Shared) (it : Value) (s₂ : Shared) : Prop
  | mk (l : List V) (σ' : List O) (Λ' : Addr -> Prop) (ad' : List Addr) (h1 : St W.gl X names ρ σ' Λ' ad' s₁) (h2 : Step (a1c X.env) σ ad Λ s.heap σ' ad' Λ' s₁.heap) (h3 : Wk W X.A (a2n X.env) σ' Λ' X.Φ ad' s₁ s₂ it l) (h4 : l.length <= 16777216) (h5 : Q l σ') : PostI W X names ρ σ Λ ad s Q s₁ it s₂
noncomputable def TI (W : World0) (k : Nat) (e : CE) (ρ : List (Option V)) (σ : List O) (Q : List V -> List O -> Prop) : Prop :=
  ∀ names sc E, isE names sc e E = true -> ∀ X : Cx, KindsOk X.env sc -> Room X.A k -> W.ok X.hB -> ∀ Λ ad s, St W.gl X names ρ σ Λ ad s ->
    wpAny (model W.p W.w) X.A (eval E X.env) (fun xv s₁ => wpAny (model W.p W.w) X.A (pyIter xv) (PostI W X names ρ σ Λ ad s Q s₁) (fun ζ ζ => False) s₁) (fun ζ ζ => False) s
section
variable {W : World0} {k : Nat} {A : Around} {s s' s'' : Shared} {F : Addr -> Prop} {sc : Scope}
variable {gl : Str -> Option Value} {X : Cx} {names : List Str} {ρ ρ' : List (Option V)} {σ σ' σ'' : List O} {Λ Λ' : Addr -> Prop} {ad ad' : List Addr}
theorem isIter.notTO {h : Heap} {I : Addr} (x : isIter h I) {vs : List Value} {n : Nat} : h.get? I ≠ some (TO vs n) := by
  obtain ⟨o, vs', n', e, _, d, _⟩ := x
  intro e'; rw [e] at e'; cases e'; cases d
theorem isIter.notData {h : Heap} {I : Addr} (x : isIter h I) {o : Obj} (e : h.get? I = some o) : ¬ a6s o := by
  obtain ⟨o', vs', n', e', _, d, _⟩ := x
  rw [e] at e'; cases e'
  rintro (⟨_, _, rfl⟩ | ⟨_, _, rfl⟩) <;> cases d
theorem isIter.notCell {h : Heap} {I : Addr} (x : isIter h I) {v : Option Value} : ¬ h.IsCell I v := by
  obtain ⟨o', vs', n', e', _, d, _⟩ := x
  rintro ⟨o, e, d'⟩
  rw [e] at e'; cases e'; rw [d] at d'; cases d'
theorem TI.seq {e : CE} {Q : List V -> List O -> Prop} (t : TE W k e ρ σ fun v σ' => ∃ b l, seqV σ' v = some (b, l) /\ notLive v = true /\ l.length <= 16777216 /\ Q l σ') : TI W k e ρ σ Q := fun names sc E he X hk hr hw Λ ad s S => by
  refine wpAny_mono (t names sc E he X hk hr hw Λ ad s S) (fun v s₁ h₁ => ?_) fun ζ ζ f => f
  obtain ⟨val, σ₁, Λ₁, ad₁, S₁, P₁, r, b, l, e1, hn, hl, q⟩ := h₁
  obtain ⟨a, vs, n, rfl, h1, h2⟩ := b4j S₁ r e1
  have itm : ∀ (i : Nat) (v : Value) (x : V), vs.toArray[i]? = some v -> l[i]? = some x -> ∀ Λ' ad' h', Keep Λ₁ Λ' s₁.heap h' -> (∀ (i : Nat) (a : Addr), ad₁[i]? = some a -> ad'[i]? = some a) -> VRel W.gl h' Λ' X.Φ ad' v x := fun i v x hv hx Λ' ad' h' K pre => by
    refine xEA (h2.get hx) fun v' hv' rv => ?_
    have : v = v' := (by
      have hv2 : vs[i]? = some v := by simpa using hv
      rw [hv2] at hv'
      exact Option.some.inj hv')
    subst this
    exact rv.keep K pre
  have hne : a ≠ s₁.heap.objs.size := fun h => by
    cases b <;> (rw [h, a0l] at h1; exact dNS h1)
  cases b with
  | true =>
    have h1' : s₁.heap.get? a = some (LO vs n) := h1
    refine wpAny_pyIter_list (a0c h1') ⟨l, σ₁, Λ₁, ad₁, S₁, P₁, ⟨s₁.heap.objs.size, [s₁.heap.objs.size, a], fun i v => vs.toArray[i]? = some v, fun i h => h.IsListIter s₁.heap.objs.size a i /\ h.IsList a vs.toArray, rfl, a0l _, ?_, ?_, ?_, ?_, fun b o e => Heap.get?_push_of_some _ e, rfl, rfl, itm⟩, hl, q⟩
    . have hsz : l.length = vs.toArray.size := by simp [h2.length]
      erw [hsz]
      exact Walks.list (prog := W.p) (w := W.w) hr.1 s₁.heap.objs.size a hne vs.toArray
    . exact ⟨⟨_, Heap.get?_push_size _ rfl, rfl, rfl⟩, a0c (Heap.get?_push_of_some _ h1')⟩
    . intro b hb
      simp only [List.mem_cons, List.not_mem_nil, or_false] at hb
      rcases hb with rfl | rfl
      . exact .inl rfl
      . refine .inr (.inr (.inl ⟨?_, _, b0m, h1'⟩))
        cases r with
        | d r => cases r with
          | lst g1 g2 g3 => exact fun h => g2 (.inl h)
          | tup _ _ => exact ff (a2o e1).1
          | _ => exact cNS e1
        | a r => cases r with
          | lst g1 g2 g3 => exact g2
          | tup _ _ => exact ff (a2o e1).1
          | _ => exact cNS e1
        | r e => simp [notLive] at hn
        | t g _ => rw [h1'] at g; exact absurd g.symm fun h => a4t h
    . intro i h hs
      obtain ⟨o, e, c, d⟩ := hs.1
      exact ⟨o, _, _, e, c, d, c8h⟩
  | false =>
    have h1' : s₁.heap.get? a = some (TO vs n) := h1
    refine wpAny_pyIter_tuple (a0e h1') ⟨l, σ₁, Λ₁, ad₁, S₁, P₁, ⟨s₁.heap.objs.size, [s₁.heap.objs.size, a], fun i v => vs.toArray[i]? = some v, fun i h => h.IsTupleIter s₁.heap.objs.size a i /\ h.IsTuple a vs.toArray, rfl, a0l _, ?_, ?_, ?_, ?_, fun b o e => Heap.get?_push_of_some _ e, rfl, rfl, itm⟩, hl, q⟩
    . have hsz : l.length = vs.toArray.size := by simp [h2.length]
      erw [hsz]
      exact Walks.tuple (prog := W.p) (w := W.w) hr.1 s₁.heap.objs.size a hne vs.toArray
    . exact ⟨⟨_, Heap.get?_push_size _ rfl, rfl, rfl⟩, a0e (Heap.get?_push_of_some _ h1')⟩
    . intro b hb
      simp only [List.mem_cons, List.not_mem_nil, or_false] at hb
      rcases hb with rfl | rfl
      . exact .inl rfl
      . exact .inr (.inl ⟨_, _, h1'⟩)
    . intro i h hs
      obtain ⟨o, e, c, d⟩ := hs.1
      exact ⟨o, _, _, e, c, d, c3u⟩
theorem St.poke (S : St gl X names ρ σ Λ ad s) {I : Addr} (hi : isIter s.heap I) (hB : X.hB.get? I = none) (hL : I ≠ X.env.locals) {h' : Heap} {t : Nat} (hk : ∀ b o, b ≠ I -> s.heap.get? b = some o -> h'.get? b = some o) (hΛ : ¬ Λ I) (hA : I ∉ ad) :
    St gl X names ρ σ Λ ad { s with heap := h', toks := t } /\ Keep Λ Λ s.heap h' := by
  have K : Keep Λ Λ s.heap h' := ⟨fun a vs n e => hk a _ (fun h => by subst h; exact hi.notTO e) e, fun a o ζ d e => hk a o (fun h => by subst h; exact hi.notData e d) e, fun ζ ζ n ζ ζ => n⟩
  refine ⟨⟨fun b o e => hk b o (fun h => by subst h; exact dGN hB e) (S.keep b o e), S.os, S.gens, S.new, fun a l => ?_, S.phi, S.nd, S.len, fun a ha => ?_, fun j a o e1 e2 e3 => ?_, S.locL, S.locA, S.cellN, S.rl, ?_⟩, K⟩
  . obtain ⟨o, e⟩ := S.lt a l; exact ⟨o, hk a o (fun h => hΛ (h ▸ l)) e⟩
  . obtain ⟨o, e⟩ := S.adl a ha; exact ⟨o, hk a o (fun h => hA (h ▸ ha)) e⟩
  . obtain ⟨h1, h2⟩ := S.objs j a o e1 e2 e3
    exact ⟨h1, h2.keep K (fun ζ ζ e => e) fun ob e => hk a ob (fun h => hA (h ▸ a0j e1)) e⟩
  . refine a1f S.vars fun m cm hn hc hv => ?_
    refine ⟨m, cm, ?_, fun x c e => ?_, fun x i val e1 e2 => ⟨fun h => ?_, fun h => ?_⟩⟩
    . obtain ⟨o, es, ep, e, r⟩ := hn
      exact ⟨o, es, ep, hk _ _ (Ne.symm hL) e, r⟩
    . have hcc := hc x c e
      obtain ⟨o, e', d⟩ := hc x c e
      exact ⟨o, hk _ _ (fun h => by subst h; exact hi.notCell hcc) e', d⟩
    . refine xEA ((hv x i val e1 e2).1 h) fun v g1 g2 => ?_; exact ⟨v, g1, g2.keep K fun ζ ζ e => e⟩
    . refine a1f ((hv x i val e1 e2).2 h) fun c v g0 g1 g2 => ?_; exact ⟨c, v, g0, g1, g2.keep K fun ζ ζ e => e⟩
theorem b4m {I : Addr} (hi : isIter s.heap I) {t : List Expr} {k : Nat} {p : Pos} (v : Value) {M : Model} {A : Around} {Q : Unit -> Shared -> Prop} {E : Value -> Shared -> Prop} (q : Q () s) : wpAny M A (letOwnedTupleGo (.Tuple t k p) (.ref I) v) Q E s := by
  obtain ⟨o, vs, n, e, c, d, hn⟩ := hi
  cases v with
  | ref a =>
    refine wpAny_bind (wpAny_load e ?_)
    erw [c, d]
    refine wpAny_ite_split (fun h => ?_) fun ζ => wpAny_pure q
    exact ff (hn.symm.trans (Bool.and_eq_true_iff.mp h).1)
  | _ => exact wpAny_pure q
theorem a6d {I : Addr} (hi : isIter s.heap I) (target : Expr) (v : Value) {M : Model} {A : Around} {Q : Unit -> Shared -> Prop} {E : Value -> Shared -> Prop} (q : Q () s) : wpAny M A (letOwnedTupleGo target (.ref I) v) Q E s := by
  have key := b4m hi (t := []) (k := 0) (p := target.pos) v (M := M) (A := A) (E := E) q
  cases target with
  | Tuple a b p => exact key
  | List a b => exact key
  | _ => exact wpAny_pure q
theorem a9s {names : List Str} {sc : Scope} {e : CE} {E : Expr} (h : isE names sc e E = true) (env : Env) (x : Value) : foldedSetIterable E env x = pure x := by
  cases E with
  | Set a b c => exact b2e h rfl
  | _ => rfl
noncomputable def bOne {α : Type} (is : List Nat) (f : Nat -> Option α) : Option α := match is with
  | [i] => f i
  | _ => none
noncomputable def bTup {α : Type} (o : Option (Bool × List V)) (f : List V -> Option α) : Option α := match o with
  | some (false, l) => f l
  | _ => none
theorem b2m {α : Type} {o : Option (Bool × List V)} {f : List V -> Option α} {r : α} (h : bTup o f = some r) : ∃ l, o = some (false, l) /\ f l = some r := by
  cases o with
  | none => exact cNS h
  | some p => obtain ⟨b, l⟩ := p; cases b with
    | false => exact ⟨l, rfl, h⟩
    | true => exact cNS h
noncomputable def c3w (ρ : List (Option V)) (σ : List O) (one : Bool) (is : List Nat) (x : V) : Option (List (Option V)) :=
  if one then bOne is fun i => some (ρ.set i (some x))
  else bTup (seqV σ x) fun l => if l.length = is.length then some (a3r ρ is l) else none
noncomputable def a6e (names : List Str) (sc : Scope) (one : Bool) (is : List Nat) (E : Expr) : Bool :=
  if one then a1q is fun i r => a2c r (a2v E fun x p => a1h names sc i x)
  else a4b E fun ts k p => a0v names sc is ts
theorem St.bind (S : St W.gl X names ρ σ Λ ad s) (hk : KindsOk X.env sc) (hr : Room X.A k) {one : Bool} {is : List Nat} {E : Expr} (ht : a6e names sc one is E = true) {v : Value} {val : V} (r : VRel W.gl s.heap Λ X.Φ ad v val) (e : c3w ρ σ one is val = some ρ')
    {QQ : Unit -> Shared -> Prop} {EE : Value -> Shared -> Prop} (q : ∀ s', St W.gl X names ρ' σ Λ ad s' -> Step (a1u sc X.env) σ ad Λ s.heap σ ad Λ s'.heap -> QQ () s') : wpAny (model W.p W.w) X.A (assign E X.env v) QQ EE s := by
  cases one with
  | true =>
    revert e
    apply a1d (l := is) ht; intro i r' h
    apply a0z h; intro h
    apply a1r h; intro x p h e
    obtain rfl := a0q (show some (ρ.set i (some val)) = some ρ' from e)
    exact wpAny_assign_Name (S.store hk h r q)
  | false =>
    refine xEA (b2m (o := seqV σ val) e) fun l heq e => ?_
    obtain ⟨hl, rfl⟩ := a4s e
    apply a5v (E := E) ht; intro ts a b h
    exact S.unpack hk hr h r heq hl q
inductive FInv (W : World0) (X : Cx) (names : List Str) (σ₁ : List O) (Λ₁ : Addr -> Prop) (ad₁ : List Addr) (s₁ : Shared) (I : Addr) (Sg : Nat -> Heap -> Prop) (Inv : Nat -> List (Option V) -> List O -> Prop) (l : List V) (n : Nat) (s' : Shared) : Prop
  | mk (j : Nat) (ρ₂ : List (Option V)) (σ₂ : List O) (Λ₂ : Addr -> Prop) (ad₂ : List Addr) (h1 : n = l.length - j) (h2 : j <= l.length) (h3 : St W.gl X names ρ₂ σ₂ Λ₂ ad₂ s') (h4 : Step (a2n X.env) σ₁ ad₁ Λ₁ s₁.heap σ₂ ad₂ Λ₂ s'.heap) (h5 : Sg j s'.heap) (h6 : ¬ Λ₂ I) (h7 : I ∉ ad₂) (h8 : Inv j ρ₂ σ₂) : FInv W X names σ₁ Λ₁ ad₁ s₁ I Sg Inv l n s'
theorem b9o {a b : Nat} (h : a < b) : b - (a + 1) < b - a := by exact om11 h
theorem c3x {one : Bool} {is : List Nat} {e : CE} {Q : Out -> List (Option V) -> List O -> Prop} {tg it : Expr} {bd : List Stmt} {pos : Pos} {TB : List (Option V) -> List O -> (Out -> List (Option V) -> List O -> Prop) -> Prop}
    (hTB : ∀ ρ σ Q, TB ρ σ Q -> ∀ Λ ad s, St W.gl X names ρ σ Λ ad s -> wpAny (model W.p W.w) X.A (execs bd X.env) (PostS W.gl X names σ Λ ad s Q) (fun ζ ζ => False) s)
    (t : wpAny (model W.p W.w) X.A (eval it X.env) (fun xv s₁ => wpAny (model W.p W.w) X.A (pyIter xv) (PostI W X names ρ σ Λ ad s (fun l σ₁ => ∃ Inv : Nat -> List (Option V) -> List O -> Prop, Inv 0 ρ σ₁ /\
      (∀ n x ρ₁ σ₁, l[n]? = some x -> Inv n ρ₁ σ₁ -> ∃ ρ₂, c3w ρ₁ σ₁ one is x = some ρ₂ /\ TB ρ₂ σ₁ fun out ρ₃ σ₃ => match out with | .next => Inv (n + 1) ρ₃ σ₃ | .ret v => Q (.ret v) ρ₃ σ₃) /\
      ∀ ρ₁ σ₁, Inv l.length ρ₁ σ₁ -> Q .next ρ₁ σ₁) s₁) (fun ζ ζ => False) s₁) (fun ζ ζ => False) s)
    (h1 : a6e names sc one is tg = true) (h2 : isE names sc e it = true) (hk : KindsOk X.env sc) (hr : Room X.A k) (hw : W.ok X.hB) (S : St W.gl X names ρ σ Λ ad s) :
    wpAny (model W.p W.w) X.A (exec (.For tg it bd [] pos) X.env) (PostS W.gl X names σ Λ ad s Q) (fun ζ ζ => False) s := by
  refine wpAny_For (wpAny_mono t (fun xv s₁ h₁ => wpAny_mono h₁ (fun itv s₂ h₂ => ?_) fun ζ ζ f => f) fun ζ ζ f => f) (a9s h2 _)
  obtain ⟨l, σ₁, Λ₁, ad₁, S₁, P₁, ⟨I, fp, P, Sg, rfl, hI, wk, sg0, hfp, hit, hkeep, hos, hgen, hP⟩, hlen, Inv, i0, turn, fin⟩ := h₂
  have hIB : X.hB.get? I = none := by
    cases e : X.hB.get? I with
    | none => rfl
    | some o => rw [S₁.keep I o e] at hI; exact dSN hI
  have hIL : I ≠ X.env.locals := fun h => by
    obtain ⟨m, o, es, ep, e, _⟩ := S₁.ns
    rw [h, e] at hI; exact dSN hI
  have hIad : ∀ {σ' ad' Λ' h'}, Step (a2n X.env) σ₁ ad₁ Λ₁ s₁.heap σ' ad' Λ' h' -> True := fun ζ => trivial
  refine codeAny_forLoop_any (FInv W X names σ₁ Λ₁ ad₁ s₁ I Sg Inv l) ?_ (l.length - 0) ?_
  . rintro n s' ⟨j, ρ₂, σ₂, Λ₂, ad₂, rfl, hj, S₂, P₂, sg, nΛ, nad, hinv⟩
    have hi₂ := hit j _ sg
    by_cases hlt : j < l.length
    . obtain ⟨x, hx⟩ : ∃ x, l[j]? = some x := ⟨l[j], List.getElem?_eq_getElem hlt⟩
      refine wk.item j s' _ _ hlt sg fun v h' tk hPv sg' hk' => ?_
      have hkI : ∀ b o, b ≠ I -> s'.heap.get? b = some o -> h'.get? b = some o := fun b o hb e => hk' b o (by simpa using hb) e
      refine xA (S₂.poke (t := tk) hi₂ hIB hIL hkI nΛ nad) fun S₃ K₃ => ?_
      have P₃ : Step (a2n X.env) σ₁ ad₁ Λ₁ s₁.heap σ₂ ad₂ Λ₂ h' := ⟨fun a o nl ne e => hkI a o (fun h => by subst h; exact dGN hI e) (P₂.only a o nl ne e), fun a o e => by
        obtain ⟨o', e'⟩ := P₂.dom a o e
        exact ⟨o', hkI a o' (fun h => by subst h; exact dGN hI e) e'⟩, P₂.lamO, P₂.pre, P₂.liv, P₂.adO, P₂.res⟩
      have rv := hP j v x hPv hx Λ₂ ad₂ h' ((P₂.keepS S₁).trans K₃) P₂.pre
      refine xEA (turn j x ρ₂ σ₂ hx hinv) fun ρ₃ hb tb => ?_
      refine a6d (hit _ _ sg') _ _ (S₃.bind hk hr h1 rv hb fun s₄ S₄ P₄ => ?_)
      refine wpAny_mono (hTB _ _ _ tb Λ₂ ad₂ s₄ S₄) (fun f s₅ h₅ => ?_) fun ζ ζ f => f.elim
      obtain ⟨out, ρ₅, σ₅, Λ₅, ad₅, S₅, P₅, fr, q⟩ := h₅
      have P₄₅ := P₄.ownS.trans P₅
      have P₁₅ := P₃.trans P₄₅
      cases fr with
      | ret r => exact ⟨_, ρ₅, σ₅, Λ₅, ad₅, S₅, P₁.own.trans P₁₅, .ret r, q⟩
      | next =>
        refine ⟨l.length - (j + 1), b9o hlt, j + 1, ρ₅, σ₅, Λ₅, ad₅, rfl, hlt, S₅, P₁₅, ?_, ?_, ?_, q⟩
        . refine wk.frame _ _ _ sg' fun b hb o e => ?_
          rcases hfp b hb with rfl | st
          . obtain ⟨o', vs', n', e', _⟩ := hit _ _ sg'
            refine P₄₅.only b o (fun h => nΛ (S₃.live_lam h)) (fun h => ?_) e
            rcases h with h | ⟨y, h⟩
            . exact hIL h
            . refine a1f S₃.vars fun m cm ζ hc ζ => ?_
              exact (hit _ _ sg').notCell (hc y _ h)
          . have K₁₃ := (P₂.keepS S₁).trans K₃
            have K₁₅ := P₁₅.keepS S₁
            rcases st with ⟨vs, n, e0⟩ | ⟨nl, o0, hd, e0⟩ | ⟨nl, ne, o0, e0⟩
            . have := K₁₃.tups _ _ _ e0
              rw [e] at this; cases this
              exact K₁₅.tups _ _ _ e0
            . have := K₁₃.objs _ _ nl hd e0
              rw [e] at this; cases this
              exact K₁₅.objs _ _ nl hd e0
            . have := P₃.only _ _ nl ne e0
              rw [e] at this; cases this
              exact P₁₅.only _ _ nl ne e0
        . intro hl
          rcases P₄₅.lamO I hl with h | h
          . exact nΛ h
          . obtain ⟨o', vs', n', e', _⟩ := hit _ _ sg'
            exact dGN h e'
        . intro hl
          rcases P₄₅.adO I hl with h | h
          . exact nad h
          . obtain ⟨o', vs', n', e', _⟩ := hit _ _ sg'
            exact dGN h e'
    . have hjl : j = l.length := Nat.le_antisymm hj (Nat.le_of_not_lt hlt)
      subst hjl
      refine wk.done s' _ _ sg fun h' tk hk' => ?_
      have hkI : ∀ b o, b ≠ I -> s'.heap.get? b = some o -> h'.get? b = some o := fun b o hb e => hk' b o (by simpa using hb) e
      refine xA (S₂.poke (t := tk) hi₂ hIB hIL hkI nΛ nad) fun S₃ K₃ => ?_
      have P₃ : Step (a2n X.env) σ₁ ad₁ Λ₁ s₁.heap σ₂ ad₂ Λ₂ h' := ⟨fun a o nl ne e => hkI a o (fun h => by subst h; exact dGN hI e) (P₂.only a o nl ne e), fun a o e => by
        obtain ⟨o', e'⟩ := P₂.dom a o e
        exact ⟨o', hkI a o' (fun h => by subst h; exact dGN hI e) e'⟩, P₂.lamO, P₂.pre, P₂.liv, P₂.adO, P₂.res⟩
      exact wpAny_execs_nil ⟨.next, ρ₂, σ₂, Λ₂, ad₂, S₃, P₁.own.trans P₃, .next, fin _ _ hinv⟩
  . have kk : Kept X.env.locals s₁ s₂ := .of_keeps hkeep hos hgen
    refine ⟨0, ρ, σ₁, Λ₁, ad₁, rfl, Nat.zero_le _, S₁.kept kk, (Step.of_kept S₁ kk).own, sg0, fun h => ?_, fun h => ?_, i0⟩
    . obtain ⟨o, e⟩ := S₁.lt I h; exact dGN hI e
    . obtain ⟨o, e⟩ := S₁.adl I h; exact dGN hI e
theorem c8i {one : Bool} {is : List Nat} {e : CE} {Q : Out -> List (Option V) -> List O -> Prop} {tg it : Expr} {bd : List Stmt} {pos : Pos} {TB : List (Option V) -> List O -> (Out -> List (Option V) -> List O -> Prop) -> Prop}
    (hTB : ∀ ρ σ Q, TB ρ σ Q -> ∀ Λ ad s, St W.gl X names ρ σ Λ ad s -> wpAny (model W.p W.w) X.A (execs bd X.env) (PostS W.gl X names σ Λ ad s Q) (fun ζ ζ => False) s)
    (t : TI W k e ρ σ fun l σ₁ => ∃ Inv : Nat -> List (Option V) -> List O -> Prop, Inv 0 ρ σ₁ /\
      (∀ n x ρ₁ σ₁, l[n]? = some x -> Inv n ρ₁ σ₁ -> ∃ ρ₂, c3w ρ₁ σ₁ one is x = some ρ₂ /\ TB ρ₂ σ₁ fun out ρ₃ σ₃ => match out with | .next => Inv (n + 1) ρ₃ σ₃ | .ret v => Q (.ret v) ρ₃ σ₃) /\
      ∀ ρ₁ σ₁, Inv l.length ρ₁ σ₁ -> Q .next ρ₁ σ₁)
    (h1 : a6e names sc one is tg = true) (h2 : isE names sc e it = true) (hk : KindsOk X.env sc) (hr : Room X.A k) (hw : W.ok X.hB) (S : St W.gl X names ρ σ Λ ad s) :
    wpAny (model W.p W.w) X.A (exec (.For tg it bd [] pos) X.env) (PostS W.gl X names σ Λ ad s Q) (fun ζ ζ => False) s :=
  c3x (e := e) hTB (t names sc it h2 X hk hr hw Λ ad s S) h1 h2 hk hr hw S
theorem TS1.for1 {i : Nat} {e : CE} {b : List CS} {Q : Out -> List (Option V) -> List O -> Prop}
    (t : TI W k e ρ σ fun l σ₁ => ∃ Inv : Nat -> List (Option V) -> List O -> Prop, Inv 0 ρ σ₁ /\
      (∀ n x ρ₁ σ₁, l[n]? = some x -> Inv n ρ₁ σ₁ -> TS W k b (ρ₁.set i (some x)) σ₁ fun out ρ₃ σ₃ => match out with | .next => Inv (n + 1) ρ₃ σ₃ | .ret v => Q (.ret v) ρ₃ σ₃) /\
      ∀ ρ₁ σ₁, Inv l.length ρ₁ σ₁ -> Q .next ρ₁ σ₁) : TS1 W k (.for1 i e b) ρ σ Q := fun names sc S he X hk hr hw Λ ad s St => by
  replace he := c3k he; obtain ⟨_, _, _, _, _, rfl, he⟩ := he
  . simp only [Bool.and_eq_true] at he
    refine c8i (TB := TS W k b) (one := true) (is := [i]) (fun ρ σ Q t Λ ad s S => t names sc _ he.2 X hk hr hw Λ ad s S) (fun names sc E he X hk hr hw Λ ad s S => ?_) (by unfold a6e; exact he.1.1) he.1.2 hk hr hw St
    refine wpAny_mono (t names sc E he X hk hr hw Λ ad s S) (fun v s₁ h₁ => wpAny_mono h₁ (fun itv s₂ h₂ => ?_) fun ζ ζ f => f) fun ζ ζ f => f
    obtain ⟨l, σ', Λ', ad', S', P', wk, hl, Inv, i0, turn, fin⟩ := h₂
    exact ⟨l, σ', Λ', ad', S', P', wk, hl, Inv, i0, fun n x ρ₁ σ₁ h1 h2 => ⟨_, rfl, turn n x ρ₁ σ₁ h1 h2⟩, fin⟩
end
end Mine
end
section
open PySem PyProof.Rows PySem.SeqAt
namespace Mine
section
variable {W : World0} {k : Nat} {A : Around} {s s' s'' : Shared} {F : Addr -> Prop} {sc : Scope}
variable {gl : Str -> Option Value} {X : Cx} {names : List Str} {ρ ρ' : List (Option V)} {σ σ' σ'' : List O} {Λ Λ' : Addr -> Prop} {ad ad' : List Addr}
theorem a2h (hW : WOk W) (hk : KindsOk X.env sc) (hw : W.ok X.hB) (S : St W.gl X names ρ σ Λ ad s) {f : String} (hf : f ∈ bltNames) {x : Str} {pos : Pos} {v : Value} (hx : a1e sc f x = true) (hb : bootBuiltins (Str.ofString f) = some v) (hn : Str.ofString f ≠ "__name__") {Q E : Value -> Shared -> Prop} (q : Q v s) :
    wpAny (model W.p W.w) X.A (eval (.Name x pos) X.env) Q E s := by
  unfold a1e at hx
  simp only [Bool.and_eq_true, beq_iff_eq, Bool.not_eq_true'] at hx
  obtain ⟨⟨rfl, h2⟩, h3⟩ := hx
  have T := W.keeps hw S.keep
  exact Calls.Name_function_global hk.kind (hk.glo _ h2) (Calls.loadGlobal_builtin (by erw [hk.glob]; exact T.g) (hW.blt f hf) (by erw [hk.blt]; exact T.b) ((T.builtins _ hn).trans hb) q) h3
theorem b6f : ∀ {es : List CE} {Es : List Expr}, isEs names sc es Es = true -> ∀ pos : Pos, (backTo pos (starEach Es X.env)).any (·.1) = false
  | [], Es, h, pos => by
    first | (replace h := a0g h; obtain ⟨_, _, rfl, h⟩ := h) | (replace h := a0p h; obtain ⟨rfl, h⟩ := h)
    . rfl
  | e :: es, Es, h, pos => by
    first | (replace h := a0g h; obtain ⟨x, xs, rfl, h⟩ := h) | (replace h := a0p h; obtain ⟨rfl, h⟩ := h)
    . skip
      simp only [Bool.and_eq_true] at h
      erw [a0m h.1]
      have := b6f h.2 pos
      show (false || (backTo pos (starEach xs X.env)).any (·.1)) = false
      erw [this]; rfl
theorem a4v (hW : WOk W) {f : String} (hf : f ∈ bltNames) {v : Value} (hb : bootBuiltins (Str.ofString f) = some v) (hn : Str.ofString f ≠ "__name__") (hv : (∃ id, v = .builtin id) ∨ ∃ T, v = .type T) {es : List CE} {x : Str} {px pos : Pos} {args : List Expr} {Q : List V -> List O -> Prop} {QQ : Value -> Shared -> Prop} (hne : es ≠ [])
    (hx : a1e sc f x = true) (he : isEs names sc es args = true) (hk : KindsOk X.env sc) (hr : Room X.A k) (hw : W.ok X.hB) (S : St W.gl X names ρ σ Λ ad s) (t : TEs W k es ρ σ Q)
    (h : ∀ vs s₁ vals σ₁ Λ₁ ad₁, St W.gl X names ρ σ₁ Λ₁ ad₁ s₁ -> Step (a1c X.env) σ ad Λ s.heap σ₁ ad₁ Λ₁ s₁.heap -> VRels W.gl s₁.heap Λ₁ X.Φ ad₁ vs vals -> Q vals σ₁ ->
      wpAny (model W.p W.w) X.A (call v vs) QQ (fun ζ ζ => False) s₁) :
    wpAny (model W.p W.w) X.A (eval (.Call (.Name x px) args [] pos) X.env) QQ (fun ζ ζ => False) s := by
  refine Call_ (a2h hW hk hw S hf hx hb hn ?_)
  cases es with
  | nil => exact absurd rfl hne
  | cons e es =>
    have he' := he
    first | (replace he' := a0g he'; obtain ⟨y, ys, rfl, he'⟩ := he') | (replace he' := a0p he'; obtain ⟨rfl, he'⟩ := he')
    . skip
      simp only [Bool.and_eq_true] at he'
      have key : wpAny (model W.p W.w) X.A (spliced (backTo pos (starEach (y :: ys) X.env))) (fun vs s₁ => wpAny (model W.p W.w) X.A (call v vs) QQ (fun ζ ζ => False) s₁) (fun ζ ζ => False) s :=
        wpAny_mono (t.run he hk hr hw S pos) (fun vs s₁ h₁ => by
          obtain ⟨vals, σ₁, Λ₁, ad₁, S₁, P₁, r₁, q⟩ := h₁
          exact h vs s₁ vals σ₁ Λ₁ ad₁ S₁ P₁ r₁ q) fun ζ ζ f => f
      rcases hv with ⟨id, rfl⟩ | ⟨T, rfl⟩
      . exact callWith_builtin1 key (a0m he'.1 _ _) (b6f he'.2 pos)
      . rw [a0m he'.1] at key ⊢
        exact PyProof.Rows.callWith_type (by show (false || (backTo pos (starEach ys X.env)).any (·.1)) = false; erw [b6f he'.2 pos]; rfl) (Calls.evalArgs_plain key)
theorem TE.primG (hW : WOk W) {f : String} (hf : f ∈ bltNames) {v : Value} (hb : bootBuiltins (Str.ofString f) = some v) (hn : Str.ofString f ≠ "__name__") (hv : (∃ id, v = .builtin id) ∨ ∃ T, v = .type T) {es : List CE} (hne : es ≠ []) {Q : V -> List O -> Prop}
    (t : TEs W k es ρ σ fun vals σ' => ∃ r, Q (.d r) σ' /\ ∀ X names Λ ad s vs, Room X.A k -> W.ok X.hB -> St W.gl X names ρ σ' Λ ad s -> VRels W.gl s.heap Λ X.Φ ad vs vals -> Gives W X.A (PySem.call v vs) s (Un Λ X.Φ) r) : TE W k (.prim f es) ρ σ Q :=
  fun names sc E he X hk hr hw Λ ad s S => by
    replace he := a3c he; obtain ⟨_, _, _, _, rfl, he⟩ := he
    . simp only [Bool.and_eq_true] at he
      refine a4v hW hf hb hn hv hne he.1.1 he.1.2 hk hr hw S t fun vs s₁ vals σ₁ Λ₁ ad₁ S₁ P₁ r₁ q => ?_
      refine xEA q fun r q g => ?_
      exact wpAny_mono ((g X names Λ₁ ad₁ s₁ vs hr hw S₁ r₁).post S₁ q) (fun v s₂ h₂ => h₂.trans P₁) fun ζ ζ f => f
theorem a4w (n : Int) : Builtin.Range.rangeSize 0 n 1 = (n.toNat : Int) := by
  erw [rangeSize_one]; split <;> omega
theorem a2d {i : Int} (h : -(2 ^ 62) < i /\ i < 2 ^ 62) : Builtin.Range.rangeFitsLong i = true := by
  unfold Builtin.Range.rangeFitsLong
  simp only [Bool.and_eq_true, decide_eq_true_eq]
  omega
theorem b0q {a b c : Int} (ha : -(2 ^ 62) < a /\ a < 2 ^ 62) (hb : -(2 ^ 61) < b /\ b < 2 ^ 61) (hc : -(2 ^ 61) < c /\ c < 2 ^ 61) (hs : -(2 ^ 62) < Builtin.Range.rangeSize a b c /\ Builtin.Range.rangeSize a b c < 2 ^ 62) : Builtin.Range.small a b c = true := by
  unfold Builtin.Range.small
  erw [a2d ha, a2d ⟨by omega, by omega⟩, a2d ⟨by omega, by omega⟩, a2d hs]
  simp only [Bool.and_true, Bool.true_and, Bool.or_eq_true]
  right
  split
  . exact a2d ⟨by omega, by omega⟩
  . exact a2d ⟨by omega, by omega⟩
theorem b6g (hr : Room A k) {r : Addr} {a b c : Int} {t u v : Tok} {n : Nat} (hrg : IsRange s.heap r a b c t u v) (hsm : Builtin.Range.small a b c = true) (hn : Builtin.Range.rangeSize a b c = n) {Φ ex : Addr -> Prop} {σ : List O} {Q : Value -> Shared -> Prop} {E : Value -> Shared -> Prop}
    (q : ∀ it s₂, Wk W A ex σ Λ Φ ad s s₂ it ((List.range n).map fun (i : Nat) => .d (.int (a + (i : Int) * c))) -> Q it s₂) : wpAny (model W.p W.w) A (pyIter (.ref r)) Q E s := by
  refine wpAny_pyIter_range hrg hsm (q _ _ ⟨s.heap.objs.size, [s.heap.objs.size], fun i v => ∃ t, v = .int (a + (i : Int) * c) t, fun i h => IsRangeIter h s.heap.objs.size (a + (i : Nat) * c) ((n : Int) - (i : Nat)) c, rfl, a0l _, ?_, ?_, fun b hb => .inl (by simpa using hb), fun i h hs => ⟨_, _, _, hs, rfl, rfl, c3v⟩, fun b o e => Heap.get?_push_of_some _ e, rfl, rfl, fun i v x hp hx Λ' ad' h' K pre => ?_⟩)
  . have := Walks.range (prog := W.p) (w := W.w) hr.1 s.heap.objs.size a c n
    simpa using this
  . have := Heap.get?_push_size s.heap (o := { cls := .type "range_iterator", data := .fields #[rawInt a, rawInt (Builtin.Range.rangeSize a b c), rawInt c] }) rfl
    simpa [hn, IsRangeIter] using this
  . obtain ⟨t, rfl⟩ := hp
    rw [List.getElem?_map] at hx
    cases e : (List.range n)[i]? with
    | none => rw [e] at hx; exact dNS hx
    | some j =>
      rw [e] at hx
      simp only [Option.map_some, Option.some.injEq] at hx
      subst hx
      have : j = i := by
        rw [List.getElem?_eq_some_iff] at e
        obtain ⟨_, e⟩ := e
        simpa using e.symm
      subst this
      exact .d (.int _ _)
set_option tactic.hygienic true in
theorem TI.range1 (hW : WOk W) {e : CE} {Q : List V -> List O -> Prop} (t : TE W k e ρ σ fun v σ' => ∃ n : Int, v = .d (.int n) /\ -(2 ^ 61) < n /\ n <= 16777216 /\ Q ((List.range n.toNat).map fun (i : Nat) => .d (.int i)) σ') : TI W k (.prim "range" [e]) ρ σ Q :=
  fun names sc E he X hk hr hw Λ ad s S => by
    replace he := a3c he; obtain ⟨_, _, _, _, rfl, he⟩ := he
    . simp only [Bool.and_eq_true] at he
      refine a4v hW (f := "range") (by decide) (v := .type "range") (by decide +kernel) (by decide) (.inr ⟨_, rfl⟩) (es := [e]) (by simp) he.1.1 he.1.2 hk hr hw S (Q := fun vals σ' => ∃ n : Int, vals = [.d (.int n)] /\ -(2 ^ 61) < n /\ n <= 16777216 /\ Q ((List.range n.toNat).map fun (i : Nat) => .d (.int i)) σ') (t.mono fun v σ' h => ?_) fun vs s₁ vals σ₁ Λ₁ ad₁ S₁ P₁ r₁ q => ?_
      . obtain ⟨n, rfl, h⟩ := h; exact ⟨n, rfl, h⟩
      . obtain ⟨n, rfl, n1, n2, q⟩ := q
        cases r₁ with
        | cons rv rn =>
          cases rn
          have d := rv.dInv
          cases d
          rename_i tk
          refine call_range_1 ?_
          have kk : Kept X.env.locals s₁ { s₁ with heap := s₁.heap.push { cls := .type "range", data := .fields #[.int 0 s₁.toks, .int n tk, .int 1 (s₁.toks + 1)] }, toks := s₁.toks + 1 + 1 } := a1t
          have S₂ := S₁.kept kk
          refine b6g (W := W) (ex := a2n X.env) (σ := σ₁) (Λ := Λ₁) (ad := ad₁) (Φ := X.Φ) (s := { s₁ with heap := s₁.heap.push { cls := .type "range", data := .fields #[.int 0 s₁.toks, .int n tk, .int 1 (s₁.toks + 1)] }, toks := s₁.toks + 1 + 1 }) hr (IsRange.new _ 0 n 1 _ _ _) (b0q (by omega) (by omega) (by omega) (by erw [a4w]; omega)) (a4w n) fun it s₂ wk => ?_
          refine ⟨_, σ₁, Λ₁, ad₁, S₂, P₁.trans (.of_kept S₁ kk), wk, by simp; exact om12 n2, ?_⟩
          simpa using q
end
end Mine
end
section
open PySem PyProof.Rows PySem.SeqAt
namespace Mine
inductive IsiD : D -> String -> Bool -> Prop
  | intInt (i : Int) : IsiD (.int i) "int" true
  | intBool (i : Int) : IsiD (.int i) "bool" false
  | boolInt (b : Bool) : IsiD (.bool b) "int" true
  | boolBool (b : Bool) : IsiD (.bool b) "bool" true
  | tup (l : List D) : IsiD (.tup l) "tuple" true
  | lst (l : List D) : IsiD (.lst l) "list" true
noncomputable def lenD : D -> Option Nat
  | .tup l => some l.length
  | .lst l => some l.length
  | .dI l => some l.length
  | _ => none
section
variable {W : World0} {k : Nat} {A : Around} {s s' s'' : Shared} {F : Addr -> Prop} {sc : Scope}
variable {gl : Str -> Option Value} {X : Cx} {names : List Str} {ρ ρ' : List (Option V)} {σ σ' σ'' : List O} {Λ Λ' : Addr -> Prop} {ad ad' : List Addr}
theorem VRels.one {h : Heap} {Φ : Addr -> Prop} {vs : List Value} {x : V} (r : VRels gl h Λ Φ ad vs [x]) : ∃ v, vs = [v] /\ VRel gl h Λ Φ ad v x := by
  cases r with | cons a b => cases b; exact ⟨_, rfl, a⟩
set_option tactic.hygienic true in
theorem b9p {v : Value} {x : D} {n : Nat} {G : Addr -> Prop} (r : DRel W.gl s.heap G v x) (e : lenD x = some n) (hn : n <= 16777216) : Gives W A (PySem.call (.builtin "len") [v]) s F (.int n) := by
  cases r with
  | tup h1 h2 =>
    obtain rfl := a0q e
    refine .int fun Q E q => len_tuple (items := _) ⟨_, h1, rfl, _, rfl⟩ (by simp only [List.size_toArray, h2.length]; omega) ?_
    have := q (s.toks + 1) (s.toks + 1 + 1)
    simpa [h2.length] using this
  | lst h1 _ h2 =>
    obtain rfl := a0q e
    refine .int fun Q E q => Calls.call_len_list (a0c h1) (by simp only [List.size_toArray, h2.length]; omega) ?_
    have := q (s.toks + 1) (s.toks + 1 + 1)
    simpa [h2.length] using this
  | dI h1 _ h2 h3 =>
    obtain rfl := a0q e
    refine xEA (a5z (p := W.p) (w := W.w) h1 h2 h3.1) fun kvs hm kv => ?_
    rename_i a es n l _
    have hl : kvs.length = l.length := by simpa using congrArg List.length kv.keys
    refine .int fun Q E q => call_len_dict (b6c h3.2) hm (by omega) ?_
    have := q (s.toks + 1) (s.toks + 1 + 1)
    simpa [hl] using this
  | _ => exact cNS e
theorem TE.len (hW : WOk W) {e : CE} {Q : V -> List O -> Prop} (t : TE W k e ρ σ fun v σ' => ∃ x n, a0i σ' v = some x /\ lenD x = some n /\ n <= 16777216 /\ Q (.d (.int n)) σ') : TE W k (.prim "len" [e]) ρ σ Q :=
  TE.primG hW (by decide) (v := .builtin "len") (by decide +kernel) (by decide) (.inl ⟨_, rfl⟩) (by simp) (t.mono fun v σ' h => by
    refine a4a h fun x n e1 e2 e3 q => ?_
    refine ⟨_, q, fun X names Λ ad s vs hr hw S rr => ?_⟩
    obtain ⟨v', rfl, r⟩ := rr.one
    exact b9p (a0r S r e1) e2 e3)
theorem TE.int1 (hW : WOk W) {e : CE} {Q : V -> List O -> Prop} (t : TE W k e ρ σ fun v σ' => ∃ b, v = .d (.bool b) /\ Q (.d (.int (if b then 1 else 0))) σ') : TE W k (.prim "int" [e]) ρ σ Q :=
  TE.primG hW (by decide) (v := .type "int") (by decide +kernel) (by decide) (.inr ⟨_, rfl⟩) (by simp) (t.mono fun v σ' h => by
    obtain ⟨b, rfl, q⟩ := h
    refine ⟨_, q, fun X names Λ ad s vs hr hw S rr => ?_⟩
    obtain ⟨v', rfl, r⟩ := rr.one
    have d := r.dInv
    cases d
    exact .int fun Q E q => call_int_bool (q _ _))
theorem a7m {v : Value} {x : List D} (r : DRel W.gl s.heap F v (.tup x)) : Gives W A (PySem.call (.type "tuple") [v]) s F (.tup x) := by
  have r' := r
  cases r with
  | tup h1 h2 => exact fun L hL Q E q => call_tuple_same (a0e h1) (q _ _ .refl r')
theorem TE.tuple1 (hW : WOk W) {e : CE} {Q : V -> List O -> Prop} (t : TE W k e ρ σ fun v σ' => ∃ l, (lstV σ' v = some l ∨ v = .d (.tup l)) /\ l.length <= 16777216 /\ Q (.d (.tup l)) σ') : TE W k (.prim "tuple" [e]) ρ σ Q :=
  TE.primG hW (by decide) (v := .type "tuple") (by decide +kernel) (by decide) (.inr ⟨_, rfl⟩) (by simp) (t.mono fun v σ' h => by
    refine xEAA h fun l hl hz q => ?_
    refine ⟨_, q, fun X names Λ ad s vs hr hw S rr => ?_⟩
    obtain ⟨v', rfl, r⟩ := rr.one
    rcases hl with hl | rfl
    . obtain ⟨a, ws, n, rfl, h1, h2⟩ := a4e S r hl
      intro L hL Q E q
      refine call_tuple_list (a0c h1) (fun h' hk => ?_) (by simp only [List.size_toArray, h2.length]; exact hz)
      refine q _ _ (.of_keeps (fun b o e => Heap.get?_push_of_some _ (hk b o e)) rfl rfl) (.tup (n := 0) (Heap.get?_push_size _ rfl) ?_)
      exact h2.keep (.of_keeps fun b o e => Heap.get?_push_of_some _ (hk b o e))
    . exact a7m r.dInv)
theorem TE.sum1 (hW : WOk W) {e : CE} {Q : V -> List O -> Prop} (t : TE W k e ρ σ fun v σ' => ∃ ns : List Int, a0i σ' v = some (.lst (ns.map .int)) /\ Q (.d (.int ns.sum)) σ') : TE W k (.prim "sum" [e]) ρ σ Q :=
  TE.primG hW (by decide) (v := .builtin "sum") (by decide +kernel) (by decide) (.inl ⟨_, rfl⟩) (by simp) (t.mono fun v σ' h => by
    refine xEA h fun ns e1 q => ?_
    refine ⟨_, q, fun X names Λ ad s vs hr hw S rr => ?_⟩
    obtain ⟨v', rfl, r⟩ := rr.one
    have d := a0r S r e1
    cases d with
    | lst h1 _ h2 =>
      have hi := a2x h2
      intro L hL Q E q
      obtain ⟨xs, hxs⟩ := hi.allInts.items
      have hl := a0c h1
      rw [hxs] at hl
      refine sum_intListG hr.1 hl fun h' tk t' hk => ?_
      have e2 : ns = xs.toList.map (·.1) := by
        erw [← nums_intItems, ← hxs]; exact hi.numsOf.symm
      erw [preSum_eq, List.take_of_length_le (by simp), ← e2]
      exact q _ _ (.of_keeps hk rfl rfl) (.int _ _))
theorem c3y {vs : List Value} {bs : List Bool} {G : Addr -> Prop} (r : DRels gl s.heap G vs (bs.map D.bool)) {i : Nat} {v : Value} (e : vs.toArray[i]? = some v) : v = .bool ((bs[i]?).getD false) := by
  have e' : vs[i]? = some v := by simpa using e
  have hl : i < bs.length := by
    have := (List.getElem?_eq_some_iff.mp e').1
    rw [r.length] at this; simpa using this
  refine xEA (r.get (i := i) (x := .bool bs[i]) (by simp [hl])) fun v' hv' d => ?_
  rw [e'] at hv'; cases hv'
  cases d
  simp [hl]
theorem c3z (bs : List Bool) : ((List.range bs.length).all fun i => (bs[i]?).getD false) = bs.all id := by
  rw [Bool.eq_iff_iff, List.all_eq_true, List.all_eq_true]
  constructor
  . intro h b hb
    obtain ⟨i, hi, rfl⟩ := List.mem_iff_getElem.mp hb
    have := h i (by simpa using hi)
    simpa [hi] using this
  . intro h i hi
    have hi' : i < bs.length := by simpa using hi
    simpa [hi'] using h bs[i] (List.getElem_mem _)
set_option tactic.hygienic true in
theorem TE.all1 (hW : WOk W) {e : CE} {Q : V -> List O -> Prop} (t : TE W k e ρ σ fun v σ' => ∃ bs : List Bool, a0i σ' v = some (.lst (bs.map .bool)) /\ Q (.d (.bool (bs.all id))) σ') : TE W k (.prim "all" [e]) ρ σ Q :=
  TE.primG hW (by decide) (v := .builtin "all") (by decide +kernel) (by decide) (.inl ⟨_, rfl⟩) (by simp) (t.mono fun v σ' h => by
    refine xEA h fun bs e1 q => ?_
    refine ⟨_, q, fun X names Λ ad s vs hr hw S rr => ?_⟩
    obtain ⟨v', rfl, r⟩ := rr.one
    have d := a0r S r e1
    cases d with
    | lst h1 _ h2 =>
      rename_i a ws n _
      intro L hL Q E q
      have hne : a ≠ s.heap.objs.size := Nat.ne_of_lt (Heap.lt_size h1)
      refine call_all_walk (wpAny_pyIter_list (a0c h1) ⟨_, _, _, _, _, _, fun i => (bs[i]?).getD false, rfl, Walks.list (A := X.A.in1) hr.1 _ a hne ws.toArray, ⟨⟨_, Heap.get?_push_size _ rfl, rfl, rfl⟩, a0c (Heap.get?_push_of_some _ h1)⟩, fun i v s Q E hp hq => ?_, fun h' tk hk => ?_⟩)
      . erw [c3y h2 hp]; exact wpAny_truthy_bool hq
      . have hsz : ws.toArray.size = bs.length := by simp [h2.length]
        erw [hsz, c3z]
        exact q _ _ (.of_keeps (fun b o e => hk b o (by simpa using Nat.ne_of_lt (Heap.lt_size e)) (Heap.get?_push_of_some _ e)) rfl rfl) (.bool _))
theorem b9q {v : Value} {x : D} {c : String} {b : Bool} {G : Addr -> Prop} (r : DRel W.gl s.heap G v x) (e : IsiD x c b) : Gives W A (PySem.call (.builtin "isinstance") [v, .type c]) s F (.bool b) := by
  cases e with
  | intInt i =>
    cases r
    exact .bool fun Q E q => call_isinstance_yes (Tx := "int") (typeIs_int s i _) (by first | rfl | kernel_rfl) (by erw [isSubtype_type]; kernel_rfl) (q s.toks)
  | intBool i =>
    cases r
    exact .bool fun Q E q => PySem.call_isinstance (isinstance_false_int (by decide) (by first | rfl | kernel_rfl) (by erw [isSubtype_type]; kernel_rfl)) (q (s.toks + 1))
  | boolInt b =>
    cases r
    exact .bool fun Q E q => call_isinstance_yes (Tx := "bool") rfl (by first | rfl | kernel_rfl) (by erw [isSubtype_type]; kernel_rfl) (q s.toks)
  | boolBool b =>
    cases r
    exact .bool fun Q E q => call_isinstance_yes (Tx := "bool") rfl (by first | rfl | kernel_rfl) (by erw [isSubtype_type]; kernel_rfl) (q s.toks)
  | tup l =>
    cases r with
    | tup h1 h2 => exact .bool fun Q E q => call_isinstance_yes (Tx := "tuple") ⟨_, h1, rfl⟩ (by first | rfl | kernel_rfl) (by erw [isSubtype_type]; kernel_rfl) (q s.toks)
  | lst l =>
    cases r with
    | lst h1 _ h2 => exact .bool fun Q E q => call_isinstance_yes (Tx := "list") ⟨_, h1, rfl⟩ (by first | rfl | kernel_rfl) (by erw [isSubtype_type]; kernel_rfl) (q s.toks)
theorem c4a {c : String} {x : D} {b : Bool} (e : IsiD x c b) : c ∈ bltNames /\ bootBuiltins (Str.ofString c) = some (.type c) /\ Str.ofString c ≠ "__name__" := by
  cases e <;> exact ⟨by decide, by decide +kernel, by decide⟩
theorem TE.isi (hW : WOk W) {e : CE} {c : String} {Q : V -> List O -> Prop} (t : TE W k e ρ σ fun v σ' => ∃ x b, a0i σ' v = some x /\ IsiD x c b /\ Q (.d (.bool b)) σ') : TE W k (.isi e c) ρ σ Q :=
  fun names sc E he X hk hr hw Λ ad s S => by
    replace he := b0k he; obtain ⟨f, px, a, y, py, pos, rfl, he⟩ := he
    . skip
      simp only [Bool.and_eq_true] at he
      refine Call_ (a2h hW hk hw S (f := "isinstance") (by decide) he.1.1 (v := .builtin "isinstance") (by decide +kernel) (by decide) ?_)
      refine callWith_builtin1 (args_cons (wpAny_mono (t names sc a he.1.2 X hk hr hw Λ ad s S) (fun v s₁ h₁ => ?_) fun ζ ζ f => f) (a0m he.1.2 _ _)) (a0m he.1.2 _ _) rfl
      obtain ⟨val, σ₁, Λ₁, ad₁, S₁, P₁, r₁, x, b, ev, ei, q⟩ := h₁
      refine xAA (c4a ei) fun b1 b2 b3 => ?_
      refine args_cons (a2h hW hk hw S₁ b1 he.2 b2 b3 ?_) rfl
      refine args_nil ?_
      exact wpAny_mono ((b9q (a0r S₁ r₁ ev) ei).post S₁ q) (fun v s₂ h₂ => h₂.trans P₁) fun ζ ζ f => f
end
end Mine
end
section
open PySem PyProof.Rows PySem.SeqAt
namespace Mine
structure Src (prog : Program) (w : World) (T : String) (a : Addr) (n : Nat) (P : Nat -> Value -> Prop) (OK : Heap -> Prop) : Prop where
  kind : ∀ s : Shared, OK s.heap -> s.TypeIs (.ref a) T /\ a < s.heap.objs.size
  keep : ∀ h h' : Heap, OK h -> (∀ o, h.get? a = some o -> h'.get? a = some o) -> OK h'
  other : (Value.type T == Value.type "list") = false /\ (Value.type T == Value.type "tuple") = false
  hint : ∀ (A : Around) (E : Value -> Shared -> Prop) (s : Shared) (Q : Bool -> Shared -> Prop), OK s.heap -> Q false s -> wpAny (model prog w) A (Builtin.List.listLengthHint (.ref a)) Q E s
  walk : ∀ (A : Around) (s : Shared), A.handled = none -> OK s.heap -> ∃ (o : Obj) (St : Nat -> Heap -> Prop),
    (∀ (E : Value -> Shared -> Prop) (Q : Value -> Shared -> Prop), Q (.ref s.heap.objs.size) { s with heap := s.heap.push o } -> wpAny (model prog w) A (pyIter (.ref a)) Q E s) /\
    Walks prog w A s.heap.objs.size [s.heap.objs.size, a] [s.heap.objs.size] n P St /\ St 0 (s.heap.push o)
section
variable {prog : Program} {w : World} {A : Around} {E : Value -> Shared -> Prop} {s : Shared} {T : String} {a : Addr} {n : Nat} {P : Nat -> Value -> Prop} {OK : Heap -> Prop}
theorem b9r {R : Result -> Shared -> Prop} (K : Src prog w T a n P OK) (hh : A.handled = none) (hok : OK s.heap) (S : Addr) (res : Value) {c0 : Nat} (hSa : S ≠ a) (hS : s.heap.get? S = some { cls := .type "list", data := .seq #[] c0 })
    (hR : ∀ h' tk acc c, (∀ b o, b ≠ S -> s.heap.get? b = some o -> h'.get? b = some o) -> h'.get? S = some { cls := .type "list", dict := none, data := .seq acc c, slots := #[] } -> ItemsOf P acc n -> R (.ok (.ret res)) { s with heap := h', toks := tk }) (hn : n <= sizeLine) :
    wpAny (model prog w) A.in1 (Builtin.List.listExtendWith (.ref S) (.ref a) res)
      (fun fin s' => match fin with | .done f => R (.ok f) s' | .again c' => c'.quiet = true /\ codeAny (model prog w) A c' R s') (fun e s' => R (.error e) s') s := by
  have hSz := Heap.lt_size hS
  have hSf : S ∉ [s.heap.objs.size, a] := by
    simp only [List.mem_cons, List.not_mem_nil, or_false, not_or]; exact ⟨Nat.ne_of_lt hSz, hSa⟩
  refine a1f (K.walk A.in1 s hh hok) fun oI St hit Wk st => ?_
  have loop : ∀ (h : Heap) (c tk : Nat), St 0 h -> (∀ b o, b ≠ S -> s.heap.get? b = some o -> h.get? b = some o) -> h.get? S = some { cls := .type "list", data := .seq #[] c } ->
      codeAny (model prog w) A (.builtin "list.extend.loop" ⟨[.ref S, .ref s.heap.objs.size, res], []⟩) R { s with heap := h, toks := tk } := fun h c tk hst hk hS' => by
    refine codeAny_extend_loopS Wk.toS hn S hSf res n 0 _ #[] c rfl (Nat.zero_le _) hst hS' (ItemsOf.nil _) fun s' acc c' hm hS2 hacc => ?_
    erw [Moved.eq_with hm]
    refine hR s'.heap s'.toks acc c' (fun b o hb e => hm.heap b o (fun hmem => ?_) (hk b o hb e)) hS2 hacc
    rcases List.mem_cons.mp hmem with e' | hmem
    . exact hb e'
    . rw [List.mem_singleton.mp hmem] at e; exact Nat.lt_irrefl _ (Heap.lt_size e)
  unfold Builtin.List.listExtendWith
  refine wpAny_bind (wpAny_typeOf (T := T) (K.kind s hok).1 ?_)
  have h1 : Builtin.List.listSameRef (.ref S) (.ref a) = false := by simp [Builtin.List.listSameRef, hSa]
  simp only [h1, K.other.1, K.other.2, Bool.or_false, Bool.false_eq_true, if_false]
  refine wpAny_bind (hit _ _ ?_)
  have hS1 := Heap.get?_push_of_some oI hS
  refine wpAny_bind (wpAny_holding (K.hint _ _ _ _ (K.keep _ _ hok fun o e => Heap.get?_push_of_some _ e) ?_))
  refine wpAny_ite_split (fun ζ => ?_) (fun ζ => wpAny_pure ⟨plainId_quiet PySem.F.plain_extend_loop _, loop _ c0 _ st (fun b o ζ e => Heap.get?_push_of_some _ e) hS1⟩)
  refine wpAny_bind (wpAny_rule ?_)
  refine wpAny_bind ?_
  show wpAny _ _ (updateSeq S (·.push .none) >>= fun ζ => updateSeq S (·.pop)) _ _ _
  refine wpAny_bind (wpAny_updateSeq hS1 rfl ?_)
  have hS2 := Heap.get?_update_self (Obj.mapSeq (·.push Value.none)) hS1 rfl
  refine wpAny_updateSeq (hz := by seq_fits) hS2 rfl ?_
  have hS3 := Heap.get?_update_self (Obj.mapSeq (·.pop)) hS2 rfl
  have oth : ∀ b o, b ≠ S -> (s.heap.push oI).get? b = some o -> (((s.heap.push oI).update S (Obj.mapSeq (·.push Value.none))).update S (Obj.mapSeq (·.pop))).get? b = some o := fun b o hb e =>
    (Heap.get?_update_other _ _ (Ne.symm hb)).trans ((Heap.get?_update_other _ _ (Ne.symm hb)).trans e)
  refine wpAny_pure ⟨plainId_quiet PySem.F.plain_extend_loop _, loop _ _ _ (Wk.frame 0 _ _ st fun b hb o e => oth b o (fun h => hSf (h ▸ hb)) e) (fun b o hb e => oth b o hb (Heap.get?_push_of_some _ e)) hS3⟩
theorem a8o {R : List Value -> Shared -> Prop} (K : Src prog w T a n P OK) (hh : A.handled = none) (hok : OK s.heap) (hn : n <= sizeLine)
    (h : ∀ (h' : Heap) (tk : Nat) (acc : Array Value), (∀ b o, s.heap.get? b = some o -> h'.get? b = some o) -> ItemsOf P acc n -> R acc.toList { s with heap := h', toks := tk }) :
    wpAny (model prog w) A (collect (.ref a)) R E s := by
  have hlt := (K.kind _ hok).2
  unfold collect
  refine wpAny_bind (wpAny_runValue (codeAny_builtin entry_proto_collect' ?_))
  erw [Around.under_plainId PySem.F.plain_proto_collect _]
  show wpAny _ A.in1 (newList [] >>= fun l => again (.builtin "list.__iadd__" ⟨[l, .ref a], []⟩)) _ _ s
  refine wpAny_bind (wpAny_newObj_type ?_)
  refine wpAny_pure ⟨plainId_quiet PySem.F.plain_list_iadd _, codeAny_builtin entry_list_iadd' ?_⟩
  erw [Around.under_plainId PySem.F.plain_list_iadd _]
  have hS : (s.heap.push { cls := .type "list", data := .seq ([] : List Value).toArray }).get? s.heap.objs.size = some { cls := .type "list", data := .seq #[] } := Heap.get?_push_size _ rfl
  show wpAny _ A.in1 (Builtin.List.listExtendWith (.ref s.heap.objs.size) (.ref a) (.ref s.heap.objs.size)) _ _ _
  have key := b9r (A := A) (s := { s with heap := s.heap.push { cls := .type "list", data := .seq ([] : List Value).toArray } })
    (R := fun (q : Result) (s' : Shared) => ∃ (h' : Heap) (tk : Nat) (acc : Array Value) (c : Nat), q = .ok (.ret (.ref s.heap.objs.size)) /\ s' = { s with heap := h', toks := tk } /\
      (∀ b o, s.heap.get? b = some o -> h'.get? b = some o) /\ h'.get? s.heap.objs.size = some { cls := .type "list", dict := none, data := .seq acc c, slots := #[] } /\ ItemsOf P acc n)
    K hh (K.keep _ _ hok fun o e => Heap.get?_push_of_some _ e) s.heap.objs.size (.ref s.heap.objs.size) (Nat.ne_of_gt hlt) hS
    (fun h' tk acc c hk hS' hacc => ⟨h', tk, acc, c, rfl, rfl, fun b o e => hk b o (Nat.ne_of_lt (Heap.lt_size e)) (Heap.get?_push_of_some _ e), hS', hacc⟩) hn
  refine wpAny_mono key (fun f s' x => ?_) fun e s' x => ?_
  . cases f with
    | done f =>
      obtain ⟨h', tk, acc, c, e, rfl, hk, hS', hacc⟩ := x
      cases e
      show wpAny _ A (load s.heap.objs.size >>= _) _ _ _
      exact wpAny_bind (wpAny_load hS' (wpAny_pure (h h' tk acc hk hacc)))
    | again c =>
      refine ⟨x.1, codeAny_mono x.2 fun q s₂ y => ?_⟩
      obtain ⟨h', tk, acc, c, rfl, rfl, hk, hS', hacc⟩ := y
      show wpAny _ A (load s.heap.objs.size >>= _) _ _ _
      exact wpAny_bind (wpAny_load hS' (wpAny_pure (h h' tk acc hk hacc)))
  . refine c5v x fun ζ ζ ζ ζ e' ζ => ?_
    cases e'
theorem b9s {r : Addr} {Q : Bool -> Shared -> Prop} (hT : s.TypeIs (.ref r) "dict") (h : Q false s) : wpAny (model prog w) A (Builtin.List.listLengthHint (.ref r)) Q E s := by
  unfold Builtin.List.listLengthHint
  refine wpAny_bind (wpAny_specialOf hT PySem.F.slot_dict_len.lookup ?_)
  generalize hid : ("dict.__len__" : String) = id0
  wp_delta
  erw [show splitId id0 = some ("dict", "__len__") from by subst hid; decide +kernel]
  subst hid
  refine wpAny_bind (wpAny_isInstance (T := "dict") (b := true) hT (by erw [isSubtype_type]; kernel_rfl) ?_)
  refine wpAny_ite_split (fun hab => absurd hab (by decide)) (fun ζ => ?_)
  refine wpAny_ite_split (fun ζ => ?_) (fun hab => absurd (by decide +kernel) hab)
  refine wpAny_bind (wpAny_typeOf hT ?_)
  exact wpAny_pure h
theorem c4b {K : Type} [DecidableEq K] {knd : KeyKind prog w K} {d : Addr} {kvs : List (K × Value)} {ep : Nat} (lo : (d == sysModules) = false) : Src prog w "dict" d kvs.length (fun i v => ∃ k x, kvs[i]? = some (k, x) /\ knd.is k v = true) (fun h => h.DictAt knd d kvs ep) where
  kind := fun ζ hm => ⟨hm.dictOf.typeIs, hm.lt_size⟩
  keep := fun ζ ζ hm hk => hm.at' fun o e => hk o e
  other := ⟨by decide, by decide⟩
  hint := fun ζ ζ ζ ζ hm hq => b9s hm.dictOf.typeIs hq
  walk := fun ζ ζ hh hm => ⟨_, _, (fun ζ ζ hq => wpAny_pyIter_dict lo hm hq), Walks.dictKeys hh _ d (Nat.ne_of_lt hm.lt_size) kvs ep, ⟨⟨_, Heap.get?_push_size _ rfl, rfl, rfl⟩, hm.push _⟩⟩
end
end Mine
end
section
open PySem PyProof.Rows PySem.SeqAt
namespace Mine
noncomputable def a4h (d : Addr) (i n ep : Nat) : Obj := { cls := .type "dict_keyiterator", data := .fields #[.ref d, .int i 0, .int n 0, .int ep 0] }
section
variable {prog : Program} {w : World} {A : Around} {E : Value -> Shared -> Prop} {s : Shared} {d I : Addr} {es : List DictEntry} {ep : Nat}
theorem c8j (ho : s.heap.get? d = some (DO es ep)) : s.TypeIs (.ref d) "dict" := ⟨_, ho, rfl⟩
theorem c4c {Q : Value -> Shared -> Prop} (hd : (d == sysModules) = false) (ho : s.heap.get? d = some (DO es ep)) (hQ : Q (.ref s.heap.objs.size) { s with heap := s.heap.push (a4h d 0 es.length ep) }) : wpAny (model prog w) A (pyIter (.ref d)) Q E s := by
  have hT := c8j ho
  refine wpAny_pyIter_slot hT PySem.F.slot_dict_iter (wpAny_call_entry PySem.F.slot_dict_iter hT PySem.F.entry_dict_iter ?_ (PySem.F.args_dict_iter_1 _))
  unfold Builtin.«dict.__iter__» Builtin.Dict.dictSlotNone Builtin.Dict.showsAll
  refine wpAny_bind (wpAny_bind (wpAny_notOrdered_dict hT (wpAny_pure ?_)))
  show wpAny _ _ ((if (d == sysModules) = true then _ else _) >>= _) _ _ s
  erw [hd]
  refine wpAny_bind (wpAny_pure (wpAny_bind (wpAny_dictEntries ho rfl (wpAny_bind (wpAny_dictEpoch ho rfl ?_)))))
  exact wpAny_bind (wpAny_newObj_type (wpAny_pure ⟨_, rfl, "dict_keyiterator", _, ⟨_, Heap.get?_push_size _ rfl, rfl⟩, PySem.F.slot_dict_keyiterator_next.lookup, hQ⟩))
theorem a8p {i n : Nat} (hi : s.heap.get? I = some (a4h d i n ep)) : s.TypeIs (.ref I) "dict_keyiterator" := ⟨_, hi, rfl⟩
theorem b0r {i : Nat} {Q : Option Value -> Shared -> Prop} (hi : s.heap.get? I = some (a4h d i es.length ep)) (ho : s.heap.get? d = some (DO es ep)) {e : DictEntry} (hx : es[i]? = some e)
    (hQ : ∀ h', h'.get? I = some (a4h d (i + 1) es.length ep) -> Heap.SameBut I s.heap h' -> Q (some e.key) { s with heap := h' }) : wpAny (model prog w) A (pyNext (.ref I)) Q E s := by
  have hT := a8p hi
  unfold pyNext
  refine wpAny_bind (wpAny_attempt (wpAny_callSpecial?_slot (name := Str.ofString "__next__") hT PySem.F.slot_dict_keyiterator_next
    (wpAny_call_entry PySem.F.slot_dict_keyiterator_next hT PySem.F.entry_dict_keyiterator_next ?_ (PySem.F.args_dict_keyiterator_next_1 _))))
  refine wpAny_bind (wpAny_pure (wpAny_bind (wpAny_bind ?_)))
  first | refine wpAny_bind (wpAny_typeNameOfWhole_keyiter hT (wpAny_pure ?_)) | refine wpAny_bind (wpAny_typeNameOf_keyiter hT (wpAny_pure ?_))
  refine wpAny_bind (wpAny_fieldsOf hi rfl ?_)
  erw [show Builtin.Dict_items.ownsTuple "dict_keyiterator" = false by decide]
  show wpAny _ _ (if (Value.ref d == Value.none) = true then _ else _) _ _ s
  erw [if_neg (show ¬ ((Value.ref d == Value.none) = true) from Bool.false_ne_true)]
  refine wpAny_bind (wpAny_pure (wpAny_bind (wpAny_dictEntries ho rfl ?_)))
  rw [if_neg (by simp)]
  refine wpAny_bind (wpAny_pure (wpAny_bind (wpAny_dictEpoch ho rfl ?_)))
  rw [if_neg (by simp)]
  refine wpAny_pure ?_
  have hx' : es.toArray[i]? = some e := by simpa using hx
  simp only [show ¬ ((i : Int) < 0) from by exact om13, if_false, Int.toNat_natCast, hx']
  refine wpAny_bind ?_
  first | refine wpAny_bind (wpAny_typeNameOfWhole_keyiter hT (wpAny_pure ?_)) | refine wpAny_bind (wpAny_typeNameOf_keyiter hT (wpAny_pure ?_))
  refine wpAny_bind (wpAny_isOneOf_keyiter hT ?_)
  show wpAny _ _ (setField (.ref I) 1 (rawInt ((i : Int) + 1)) >>= _) _ _ s
  refine wpAny_bind (wpAny_setField hi rfl (by simp) ?_)
  have hi' : (s.heap.update I (Obj.mapFields (·.setIfInBounds 1 (rawInt ((i : Int) + 1))))).get? I = some (a4h d (i + 1) es.length ep) :=
    Heap.get?_update_self _ hi rfl
  refine wpAny_bind (wpAny_holding ?_)
  refine wpAny_bind (wpAny_isOneOf_keyiter (s := { s with heap := s.heap.update I (Obj.mapFields (·.setIfInBounds 1 (rawInt ((i : Int) + 1)))) }) (a8p hi') ?_)
  show wpAny _ _ (pure e.key) _ _ _
  exact wpAny_pure (wpAny_pure ⟨_, rfl, wpAny_pure (hQ _ hi' (Heap.SameBut.update ..))⟩)
theorem b2n {i : Nat} {Q : Option Value -> Shared -> Prop} (hh : A.handled = none) (hi : s.heap.get? I = some (a4h d i es.length ep)) (ho : s.heap.get? d = some (DO es ep)) (hx : es[i]? = none)
    (hQ : ∀ h', Heap.ExtBut I s.heap h' -> Q none { s with heap := h' }) : wpAny (model prog w) A (pyNext (.ref I)) Q E s := by
  have hT := a8p hi
  unfold pyNext
  refine wpAny_bind (wpAny_attempt (wpAny_callSpecial?_slot (name := Str.ofString "__next__") hT PySem.F.slot_dict_keyiterator_next
    (wpAny_call_entry PySem.F.slot_dict_keyiterator_next hT PySem.F.entry_dict_keyiterator_next ?_ (PySem.F.args_dict_keyiterator_next_1 _))))
  refine wpAny_bind (wpAny_pure (wpAny_bind (wpAny_bind ?_)))
  first | refine wpAny_bind (wpAny_typeNameOfWhole_keyiter hT (wpAny_pure ?_)) | refine wpAny_bind (wpAny_typeNameOf_keyiter hT (wpAny_pure ?_))
  refine wpAny_bind (wpAny_fieldsOf hi rfl ?_)
  erw [show Builtin.Dict_items.ownsTuple "dict_keyiterator" = false by decide]
  show wpAny _ _ (if (Value.ref d == Value.none) = true then _ else _) _ _ s
  erw [if_neg (show ¬ ((Value.ref d == Value.none) = true) from Bool.false_ne_true)]
  refine wpAny_bind (wpAny_pure (wpAny_bind (wpAny_dictEntries ho rfl ?_)))
  rw [if_neg (by simp)]
  refine wpAny_bind (wpAny_pure (wpAny_bind (wpAny_dictEpoch ho rfl ?_)))
  rw [if_neg (by simp)]
  refine wpAny_pure ?_
  have hx' : es.toArray[i]? = none := by simpa using hx
  simp only [show ¬ ((i : Int) < 0) from by exact om13, if_false, Int.toNat_natCast, hx']
  refine wpAny_bind ?_
  first | refine wpAny_bind (wpAny_typeNameOfWhole_keyiter hT (wpAny_pure ?_)) | refine wpAny_bind (wpAny_typeNameOf_keyiter hT (wpAny_pure ?_))
  show wpAny _ _ (setField (.ref I) 0 .none >>= _) _ _ s
  refine wpAny_bind (wpAny_setField hi rfl (by simp) ?_)
  show wpAny _ _ (newExc (.type "StopIteration") [] >>= _) _ _ _
  refine wpAny_bind ?_
  simp only [newExc, newTuple]
  refine wpAny_bind (wpAny_newObj_type ?_ (by size_fits))
  refine wpAny_bind (m := firstArgMember _ _) (wpAny_of_eq (a := Value.none) (by first | rfl | (simp only [firstArgMember]; rfl)) ?_)
  refine wpAny_newObj_type ?_ (by size_fits)
  simp only [raiseNew]
  refine wpAny_bind (wpAny_handled ?_)
  erw [show A.in1.handled = none from hh]
  refine wpAny_bind (wpAny_pure (wpAny_throw ?_))
  refine wpAny_bind (wpAny_isInstance (T := "StopIteration") (b := true) ⟨_, Heap.get?_push_size _ rfl, rfl⟩ isSubtype_stop ?_)
  exact wpAny_pure (hQ _ (((Heap.SameBut.update ..).extBut.push _).push _))
theorem c4d {i n : Nat} {Q : Value -> Shared -> Prop} (hi : s.heap.get? I = some (a4h d i n ep)) (h : Q (.ref I) s) : wpAny (model prog w) A (pyIter (.ref I)) Q E s := wpAny_pyIter_keyiter ⟨_, hi, rfl, rfl⟩ h
theorem b9t (hh : A.handled = none) (hne : d ≠ I) (es : List DictEntry) (ep : Nat) : Walks prog w A I [I, d] [I] es.length (fun i v => ∃ e, es[i]? = some e /\ v = e.key) (fun i h => h.get? I = some (a4h d i es.length ep) /\ h.get? d = some (DO es ep)) where
  sub := fun b hb => List.mem_cons.mpr (.inl (List.mem_singleton.mp hb))
  frame := fun ζ ζ ζ st hk => ⟨hk I (.head _) _ st.1, hk d (.tail _ (.head _)) _ st.2⟩
  item := fun i s Q E hi st hQ => b0r st.1 st.2 (List.getElem?_eq_getElem hi) fun h' hi' hs' => hQ _ h' s.toks ⟨_, List.getElem?_eq_getElem hi, rfl⟩ ⟨hi', hs'.extBut d _ hne st.2⟩ fun b o hb e => hs'.extBut b o (fun h => hb (List.mem_singleton.mpr h)) e
  done := fun s Q E st hQ => b2n hh st.1 st.2 (List.getElem?_eq_none (Nat.le_refl _)) fun h' he' => hQ h' s.toks fun b o hb e => he' b o (fun h => hb (List.mem_singleton.mpr h)) e
  self := fun ζ ζ ζ ζ st hQ => c4d st.1 hQ
end
section
variable {prog : Program} {w : World} {A : Around} {E : Value -> Shared -> Prop} {s : Shared} {T : String} {a : Addr} {n : Nat} {P : Nat -> Value -> Prop} {OK : Heap -> Prop}
end
end Mine
end
section
open PySem PyProof.Rows PySem.SeqAt
namespace Mine
section
variable {W : World0} {k : Nat} {A : Around} {s s' s'' : Shared} {F : Addr -> Prop} {sc : Scope}
variable {gl : Str -> Option Value} {X : Cx} {names : List Str} {ρ ρ' : List (Option V)} {σ σ' σ'' : List O} {Λ Λ' : Addr -> Prop} {ad ad' : List Addr}
theorem a9t {acc : List Value} : ∀ {ns : List Int}, acc.length = ns.length -> (∀ (j : Nat) v, acc[j]? = some v -> ∃ n t, ns[j]? = some n /\ v = .int n t) -> IntsAre acc ns := by
  induction acc with
  | nil => intro ns hl h; cases ns with
    | nil => exact .nil
    | cons a b => simp at hl
  | cons v vs ih =>
    intro ns hl h
    cases ns with
    | nil => simp at hl
    | cons n ns =>
      refine xEEA (h 0 v rfl) fun n' t e1 e2 => ?_
      simp at e1; subst e1; subst e2
      exact .cons _ _ (ih (by simpa using hl) fun j v' hj => by simpa using h (j + 1) v' (by simpa using hj))
noncomputable def a7n (ns : List Int) : List Int := ns.mergeSort (fun a b => decide (a <= b))
theorem a4x (ns : List Int) : (a7n ns).Perm ns := List.mergeSort_perm _ _
theorem a5q (ns : List Int) : (a7n ns).Pairwise (· <= ·) := by
  have := List.pairwise_mergeSort (le := fun (a b : Int) => decide (a <= b)) (fun a b c => by simp; exact om14) (fun a b => by simp; exact om15) ns
  simpa [a7n] using this
theorem a3t : ∀ {a b : List Int}, a.Perm b -> a.Pairwise (· <= ·) -> b.Pairwise (· <= ·) -> a = b := by
  intro a b hp ha hb
  exact List.Perm.eq_of_pairwise (fun x y ζ ζ h1 h2 => Int.le_antisymm h1 h2) ha hb hp
theorem b2o {vs : List Value} {ns : List Int} (hI : IntsAre vs ns) (h64 : ns.length < 64) (hF : ∀ a, F a -> used s a) {h' : Heap} {tk : Nat} (hk : ∀ b o, s.heap.get? b = some o -> h'.get? b = some o) {Q E : Value -> Shared -> Prop}
    (q : ∀ v s', (∀ b o, s.heap.get? b = some o -> s'.heap.get? b = some o) -> s'.os = s.os -> s'.gens = s.gens -> DRel W.gl s'.heap F v (.lst ((a7n ns).map .int)) -> Q v s') :
    wpAny (model W.p W.w) A (newList vs) (fun l s₁ => wpAny (model W.p W.w) A (PySem.call (.builtin "list.sort") [l]) (fun ζ s₂ => Q l s₂) E s₁) E { s with heap := h', toks := tk } := by
  have hl := IntsAre.length hI
  refine wpAny_newList ?_ (by erw [sizeLine_eq]; exact om16 hl h64)
  have hoL : (h'.push (seqObj "list" vs.toArray 0)).get? h'.objs.size = some (seqObj "list" vs.toArray 0) := Heap.get?_push_size _ rfl
  refine wpAny_call_entry slot_list_sort ⟨_, hoL, rfl⟩ entry_list_sort (list_sort_tree hoL hI (om17 hl h64) fun out ns' a1 a2 a3 => ⟨_, rfl, ?_⟩) (args_list_sort _)
  obtain ⟨e, he⟩ := sortedHeap_at (out := out) hoL
  have hold : ∀ b o, h'.get? b = some o -> (sortedHeap (h'.push (seqObj "list" vs.toArray 0)) h'.objs.size vs out).get? b = some o := fun b o e => by
    have hlt := Heap.lt_size e
    rw [sortedHeap_old (Nat.ne_of_lt hlt) (by rw [size_push']; exact Nat.lt_succ_of_lt hlt)]
    exact Heap.get?_push_of_some _ e
  have es : ns' = a7n ns := a3t (a2.trans (a4x ns).symm) a3 (a5q ns)
  subst es
  refine q _ _ (fun b o e => hold b o (hk b o e)) rfl rfl (.lst (vs := out.toList) (n := e) (by simpa [LO] using he) (fun hf => ?_) (DRels.ints a1))
  obtain ⟨o, e'⟩ := hF _ hf
  exact absurd (Heap.lt_size (hk _ _ e')) (Nat.lt_irrefl _)
theorem a8q (hF : ∀ a, F a -> used s a) (hr : Room A k) {v : Value} {l : List (Int × D)} {G : Addr -> Prop} (r : DRel W.gl s.heap G v (.dI l)) (h64 : l.length < 64) : Gives W A (PySem.call (.builtin "sorted") [v]) s F (.lst ((a7n (l.map (·.1))).map .int)) := by
  cases r with
  | dI h1 _ h2 h3 =>
    refine xEA (a5z (p := W.p) (w := W.w) h1 h2 h3.1) fun kvs hm kv => ?_
    obtain ⟨ep, hat⟩ := hm.dictAt
    have hl : kvs.length = l.length := by simpa using congrArg List.length kv.keys
    intro L hL Q E q
    refine Calls.call_function_entry kind_sorted plain_sorted entry_sorted (args_sorted1 _) ?_
    unfold Builtin.«sorted»
    refine wpAny_bind (m := checkCount "sorted" 1 1 _) (wpAny_pure ?_)
    refine wpAny_bind (a8o (A := A.in1) (c4b (knd := intKind W.p W.w) (kvs := kvs) (ep := ep) (b6c h3.2)) hr.1 hat (by erw [sizeLine_eq]; exact om16 hl h64) fun h' tk acc hk hacc => ?_)
    have hI : IntsAre acc.toList (l.map (·.1)) := by
      refine a9t (by erw [Array.length_toList, hacc.1, hl]; simp) fun j v hj => ?_
      refine xEEA (hacc.2 j v (by erw [← Array.getElem?_toList]; exact hj)) fun key x g1 g2 => ?_
      have : (l.map (·.1))[j]? = some key := by erw [← kv.keys, List.getElem?_map, g1]; rfl
      refine ⟨key, ?_⟩
      cases v with
      | int i t =>
        have : i = key := by simpa [intKind, Value.isInt] using g2
        subst this
        exact ⟨t, by assumption, rfl⟩
      | _ => simp [intKind, Value.isInt] at g2
    refine wpAny_bind (wpAny_mono (b2o (W := W) (A := A.in1) (s := s) (F := F) (tk := tk) hI (by simpa using h64) hF hk (E := E) (Q := fun v s' => Q v s') fun v s' g1 g2 g3 g4 => q v s' (.of_keeps g1 g2 g3) g4) (fun l s₁ h₁ => ?_) fun ζ ζ e => e)
    exact wpAny_bind (wpAny_holding (wpAny_mono h₁ (fun ζ s₂ h₂ => wpAny_pure ⟨_, rfl, h₂⟩) fun ζ ζ e => e))
theorem TE.sortedD (hW : WOk W) {e : CE} {Q : V -> List O -> Prop} (t : TE W k e ρ σ fun v σ' => ∃ l, a0i σ' v = some (.dI l) /\ l.length < 64 /\ Q (.d (.lst ((a7n (l.map (·.1))).map .int))) σ') : TE W k (.prim "sorted" [e]) ρ σ Q :=
  TE.primG hW (by decide) (v := .builtin "sorted") (by decide +kernel) (by decide) (.inl ⟨_, rfl⟩) (by simp) (t.mono fun v σ' h => by
    refine xEAA h fun l e1 h64 q => ?_
    refine ⟨_, q, fun X names Λ ad s vs hr hw S rr => ?_⟩
    obtain ⟨v', rfl, r⟩ := rr.one
    exact a8q S.usedF hr (a0r S r e1) h64)
theorem b0s {R : List Value -> Shared -> Prop} {E : Value -> Shared -> Prop} {r : Addr} {a b c : Int} {t u v : Tok} {n : Nat} (hh : A.handled = none) (hr : IsRange s.heap r a b c t u v) (hsmall : Builtin.Range.small a b c = true) (hn : Builtin.Range.rangeSize a b c = n) (hlen : n <= 2 ^ 24)
    (h : ∀ (h' : Heap) (tk : Nat) (acc : Array Value), (∀ b o, s.heap.get? b = some o -> h'.get? b = some o) -> ItemsOf (fun i v => ∃ t, v = .int (a + i * c) t) acc n -> R acc.toList { s with heap := h', toks := tk }) :
    wpAny (model W.p W.w) A (collect (.ref r)) R E s := by
  unfold collect
  refine wpAny_bind (wpAny_runValue (codeAny_builtin entry_proto_collect' ?_))
  erw [Around.under_plainId PySem.F.plain_proto_collect _]
  show wpAny _ A.in1 (newList [] >>= fun l => again (.builtin "list.__iadd__" ⟨[l, .ref r], []⟩)) _ _ s
  refine wpAny_bind (wpAny_newObj_type ?_)
  refine wpAny_pure ⟨plainId_quiet PySem.F.plain_list_iadd _, codeAny_builtin entry_list_iadd' ?_⟩
  erw [Around.under_plainId PySem.F.plain_list_iadd _]
  have hS₁ : (s.heap.push { cls := .type "list", data := .seq ([] : List Value).toArray }).get? s.heap.objs.size = some { cls := .type "list", data := .seq #[] } := Heap.get?_push_size _ rfl
  show wpAny _ A.in1 (Builtin.List.listExtendWith (.ref s.heap.objs.size) (.ref r) (.ref s.heap.objs.size)) _ _ _
  have key := wpAny_extend_range (prog := W.p) (w := W.w) (A := A) (s := { s with heap := s.heap.push { cls := .type "list", data := .seq ([] : List Value).toArray } })
    (R := fun (q : Result) (s' : Shared) => ∃ (h' : Heap) (tk : Nat) (acc' : Array Value) (c' : Nat), q = .ok (.ret (.ref s.heap.objs.size)) /\ s' = { s with heap := h', toks := tk } /\
      (∀ b o, s.heap.get? b = some o -> h'.get? b = some o) /\ h'.get? s.heap.objs.size = some { cls := .type "list", dict := none, data := .seq acc' c', slots := #[] } /\ ItemsOf (fun i v => ∃ t, v = .int (a + i * c) t) acc' n)
    hh (Heap.get?_push_of_some _ hr) hsmall hn hlen s.heap.objs.size (.ref s.heap.objs.size) 0 hS₁
    (fun h' tk acc' c' hk hS' hacc => ⟨h', tk, acc', c', rfl, rfl, fun b o e => hk b o (Nat.ne_of_lt (Heap.lt_size e)) (Heap.get?_push_of_some _ e), hS', hacc⟩)
  refine wpAny_mono key (fun fin s' x => ?_) fun e s' x => ?_
  . cases fin with
    | done f =>
      obtain ⟨h', tk, acc', c', e, rfl, hk, hS', hacc⟩ := x
      cases e
      show wpAny _ A (load s.heap.objs.size >>= _) _ _ _
      refine wpAny_bind (wpAny_load hS' ?_)
      exact wpAny_pure (h h' tk acc' hk hacc)
    | again c₁ =>
      refine ⟨x.1, codeAny_mono x.2 fun q s₂ y => ?_⟩
      obtain ⟨h', tk, acc', c', rfl, rfl, hk, hS', hacc⟩ := y
      show wpAny _ A (load s.heap.objs.size >>= _) _ _ _
      refine wpAny_bind (wpAny_load hS' ?_)
      exact wpAny_pure (h h' tk acc' hk hacc)
  . refine c5v x fun ζ ζ ζ ζ e' ζ => ?_
    cases e'
theorem a5g {Q₁ : Value -> Shared -> Prop} {E : Value -> Shared -> Prop} {r : Addr} {a b c : Int} {t u v : Tok} {n : Nat} (hh : A.handled = none) (hr : IsRange s.heap r a b c t u v) (hsmall : Builtin.Range.small a b c = true) (hn : Builtin.Range.rangeSize a b c = n) (hlen : n <= 2 ^ 24)
    (h : ∀ (h' : Heap) (tk : Nat) (acc : Array Value), (∀ b o, s.heap.get? b = some o -> h'.get? b = some o) -> ItemsOf (fun i v => ∃ t, v = .int (a + i * c) t) acc n -> Q₁ (.ref h'.objs.size) { s with heap := h'.push { cls := .type "tuple", data := .seq acc }, toks := tk }) :
    codeAny (model W.p W.w) A (.call (.builtin "tuple.__new__") ⟨[.type "tuple", .ref r], []⟩) (wants Q₁ E) s := by
  refine codeAny_of_tree ?_
  show wpAny _ A.in1 (do checkBuiltinCall "tuple.__new__" ⟨[.type "tuple", .ref r], []⟩; again (.builtin "tuple.__new__" ⟨[.type "tuple", .ref r], []⟩)) _ _ s
  refine wpAny_bind (wpAny_of_eq (PySem.F.newCall_tuple_1 _) (wpAny_pure ⟨plainId_quiet PySem.F.plain_tuple_new _, codeAny_builtin PySem.F.entry_tuple_new ?_⟩))
  erw [Around.under_plainId PySem.F.plain_tuple_new _]
  have hsub := sub_tuple_self
  have hinit := init_tuple_lookup
  have hmh := madeHere_tuple
  have hTI : s.TypeIs (.ref r) "range" := ⟨_, hr, rfl⟩
  wp_walk using wpAny_typeOf hTI, (b0s (W := W) (A := A.in1) hh hr hsmall hn hlen)
  intro h' tk acc hk hacc
  show wpAny _ _ (Builtin.Tuple.tupleExact acc.toList.toArray >>= fun v => ret v) _ _ _
  unfold Builtin.Tuple.tupleExact
  refine wpAny_bind (wpAny_newObj_type ?_ (by show acc.toList.toArray.size <= sizeLine; simp only [Array.toArray_toList]; erw [hacc.1, sizeLine_eq]; omega))
  refine wpAny_pure ?_
  have e : acc.toList.toArray = acc := by simp
  erw [e]
  exact h h' tk acc hk hacc
theorem a7o {Q : Value -> Shared -> Prop} {E : Value -> Shared -> Prop} {r : Addr} {a b c : Int} {t u v : Tok} {n : Nat} (hh : A.handled = none) (hr : IsRange s.heap r a b c t u v) (hsmall : Builtin.Range.small a b c = true) (hn : Builtin.Range.rangeSize a b c = n) (hlen : n <= 2 ^ 24)
    (h : ∀ (h' : Heap) (tk : Nat) (acc : Array Value), (∀ b o, s.heap.get? b = some o -> h'.get? b = some o) -> ItemsOf (fun i v => ∃ t, v = .int (a + i * c) t) acc n -> Q (.ref h'.objs.size) { s with heap := h'.push { cls := .type "tuple", data := .seq acc }, toks := tk }) :
    wpAny (model W.p W.w) A (PySem.call (.type "tuple") [.ref r]) Q E s := by
  refine callType_codes (Q₁ := fun obj s₁ => s₁.TypeIs obj "tuple" /\ Q obj s₁) PySem.F.called_tuple (PySem.F.typeCall_tuple_1 _) PySem.F.entry_object_init
    (a5g (W := W) (A := A.in1) hh hr hsmall hn hlen fun h' tk acc hk hacc => ⟨⟨_, Heap.get?_push_size _ rfl, rfl⟩, h h' tk acc hk hacc⟩) fun obj s₁ h₁ => ?_
  exact ⟨h₁.1, PySem.F.args_object_init_2 obj _, object_init_meets PySem.F.called_tuple.init.lookup PySem.F.called_tuple.made (by decide) W.p W.w A.in1 _ s₁ ⟨h₁.1, rfl, h₁.2⟩⟩
theorem c4e {n : Nat} {acc : Array Value} {c : Int} (h : ItemsOf (fun i v => ∃ t, v = .int (0 + (i : Int) * 1) t) acc n) : IntsAre acc.toList ((List.range n).map fun (i : Nat) => (i : Int)) :=
  a9t (by simp [h.1]) fun j v hj => by
    obtain ⟨t, rfl⟩ := h.2 j v (by erw [← Array.getElem?_toList]; exact hj)
    have hlt : j < n := by
      have := (List.getElem?_eq_some_iff.mp hj).1
      rw [Array.length_toList, h.1] at this; exact this
    exact ⟨j, t, by simp [hlt], by simp⟩
set_option tactic.hygienic true in
theorem TE.tupRange (hW : WOk W) {e : CE} {Q : V -> List O -> Prop} (t : TE W k e ρ σ fun v σ' => ∃ n : Int, v = .d (.int n) /\ -(2 ^ 61) < n /\ n <= 16777216 /\ Q (.d (.tup ((List.range n.toNat).map fun (i : Nat) => .int i))) σ') : TE W k (.prim "tuple" [.prim "range" [e]]) ρ σ Q :=
  fun names sc E he X hk hr hw Λ ad s S => by
    replace he := a3c he; obtain ⟨_, _, _, _, rfl, he⟩ := he
    . simp only [Bool.and_eq_true] at he
      obtain ⟨⟨hg, hes⟩, _⟩ := he
      first | (replace hes := a0g hes; obtain ⟨y, ys, rfl, hes⟩ := hes) | (replace hes := a0p hes; obtain ⟨rfl, hes⟩ := hes)
      . skip
        simp only [Bool.and_eq_true] at hes
        obtain ⟨hy, hnil⟩ := hes
        first | (replace hnil := a0g hnil; obtain ⟨_, _, rfl, hnil⟩ := hnil) | (replace hnil := a0p hnil; obtain ⟨rfl, hnil⟩ := hnil)
        . refine Call_ (a2h hW hk hw S (f := "tuple") (by decide) hg (v := .type "tuple") (by decide +kernel) (by decide) ?_)
          erw [a0m hy]
          refine PyProof.Rows.callWith_type rfl (Calls.evalArgs_plain (Calls.spliced_cons ?_))
          replace hy := a3c hy; obtain ⟨_, _, _, _, rfl, hy⟩ := hy
          . simp only [Bool.and_eq_true] at hy
            refine a4v hW (f := "range") (by decide) (v := .type "range") (by decide +kernel) (by decide) (.inr ⟨_, rfl⟩) (es := [e]) (by simp) hy.1.1 hy.1.2 hk hr hw S (Q := fun vals σ' => ∃ n : Int, vals = [.d (.int n)] /\ -(2 ^ 61) < n /\ n <= 16777216 /\ Q (.d (.tup ((List.range n.toNat).map fun (i : Nat) => .int i))) σ') (t.mono fun v σ' h => ?_) fun vs s₁ vals σ₁ Λ₁ ad₁ S₁ P₁ r₁ q => ?_
            . obtain ⟨n, rfl, h⟩ := h; exact ⟨n, rfl, h⟩
            . obtain ⟨n, rfl, n1, n2, q⟩ := q
              obtain ⟨v', rfl, r⟩ := r₁.one
              have d := r.dInv
              cases d
              rename_i tk
              refine call_range_1 (Calls.spliced_nil ?_)
              have kk : Kept X.env.locals s₁ { s₁ with heap := s₁.heap.push { cls := .type "range", data := .fields #[.int 0 s₁.toks, .int n tk, .int 1 (s₁.toks + 1)] }, toks := s₁.toks + 1 + 1 } := a1t
              refine a7o (W := W) (s := { s₁ with heap := s₁.heap.push { cls := .type "range", data := .fields #[.int 0 s₁.toks, .int n tk, .int 1 (s₁.toks + 1)] }, toks := s₁.toks + 1 + 1 }) hr.1 (IsRange.new _ 0 n 1 _ _ _) (b0q (by omega) (by omega) (by omega) (by erw [a4w]; omega)) (a4w n) (by omega) fun h' tk' acc hk' hacc => ?_
              have kk2 : Kept X.env.locals s₁ { s₁ with heap := h'.push { cls := .type "tuple", data := .seq acc }, toks := tk' } := .of_keeps (fun b o e => Heap.get?_push_of_some _ (hk' b o (Heap.get?_push_of_some _ e))) rfl rfl
              have hi := c4e (c := 1) hacc
              refine Post.trans P₁ (Post.pure S₁ kk2 (.d (.tup (vs := acc.toList) (n := 0) (by simpa [TO] using Heap.get?_push_size h' (o := { cls := .type "tuple", data := .seq acc }) rfl) ?_)) q)
              have := DRels.ints (gl := W.gl) (h := h'.push { cls := .type "tuple", data := .seq acc }) (Λ := Un Λ₁ X.Φ) hi
              simpa [Function.comp_def] using this
end
end Mine
end
section
open PySem PyProof.Rows PySem.SeqAt
namespace Mine
theorem a5l {env : Env} : ∀ (names : List (Str × NameKind)) (x : Str),
    (names.map fun (n, k) => if (k == NameKind.free && env.scope.kind == .function && env.kindOf n == some .cell) then (n, NameKind.cell) else (n, k)).lookup x =
    (names.lookup x).map fun k => if (k == NameKind.free && env.scope.kind == .function && env.kindOf x == some .cell) then NameKind.cell else k
  | [], _ => rfl
  | (n, k) :: r, x => by
    have ih := a5l (env := env) r x
    simp only [List.map_cons]
    cases hx : x == n with
    | true =>
      have : x = n := beq_iff_eq.mp hx
      subst this
      by_cases hc : (k == NameKind.free && env.scope.kind == .function && env.kindOf x == some .cell) = true
      . erw [if_pos hc]; simp only [List.lookup_cons, beq_self_eq_true, Option.map_some, if_pos hc]
      . erw [if_neg hc]; simp only [List.lookup_cons, beq_self_eq_true, Option.map_some, if_neg hc]
    | false =>
      by_cases hc : (k == NameKind.free && env.scope.kind == .function && env.kindOf n == some .cell) = true
      . erw [if_pos hc]; simp only [List.lookup_cons, hx]; exact ih
      . erw [if_neg hc]; simp only [List.lookup_cons, hx]; exact ih
theorem a4i {env : Env} (f : Str × NameKind -> List (Str × Addr) -> Sem (ForInStep (List (Str × Addr))))
    (hf : ∀ name kind cs, f (name, kind) cs = if kind == .free then (do let a ← cellOf env name; pure (.yield ((name, a) :: cs))) else pure (.yield cs)) :
    ∀ (l : List (Str × NameKind)) (acc : List (Str × Addr)), (∀ y ∈ l, y.2 = .free -> ∃ c, env.cells.lookup y.1 = some c) ->
      ∃ cl, forIn l acc f = (pure cl : Sem _) /\ (∀ x c, (x, c) ∈ cl -> (x, c) ∈ acc ∨ env.cells.lookup x = some c) /\ (∀ y ∈ l, y.2 = .free -> ∃ c, (y.1, c) ∈ cl) /\ ∀ z ∈ acc, z ∈ cl
  | [], acc, _ => ⟨acc, by rw [List.forIn_nil], fun ζ ζ h => .inl h, fun ζ h => (by cases h), fun ζ h => h⟩
  | (n, k) :: r, acc, h => by
    erw [List.forIn_cons, hf]
    by_cases hk : (k == NameKind.free) = true
    . erw [if_pos hk]
      refine xE (h (n, k) List.mem_cons_self (beq_iff_eq.mp hk)) fun c hc => ?_
      refine b1q (a4i f hf r ((n, c) :: acc) fun y hy => h y (List.mem_cons_of_mem _ hy)) fun cl h1 h2 h3 h4 => ?_
      refine ⟨cl, ?_, fun x c' hx => ?_, fun y hy hyk => ?_, fun z hz => h4 z (List.mem_cons_of_mem _ hz)⟩
      . unfold cellOf; erw [hc]; simp only [pure_bind]; exact h1
      . rcases h2 x c' hx with hx | hx
        . rcases List.mem_cons.mp hx with e | hx
          . cases e; exact .inr hc
          . exact .inl hx
        . exact .inr hx
      . rcases List.mem_cons.mp hy with rfl | hy
        . exact ⟨c, h4 _ List.mem_cons_self⟩
        . exact h3 y hy hyk
    . erw [if_neg hk]
      refine b1q (a4i f hf r acc fun y hy => h y (List.mem_cons_of_mem _ hy)) fun cl h1 h2 h3 h4 => ?_
      refine ⟨cl, by simp only [pure_bind]; exact h1, h2, fun y hy hyk => ?_, h4⟩
      rcases List.mem_cons.mp hy with rfl | hy
      . exact absurd (beq_iff_eq.mpr hyk) hk
      . exact h3 y hy hyk
theorem a6f {α : Type} : ∀ {l : List (Str × α)} {x : Str} {c : α}, (x, c) ∈ l -> ∃ c', l.lookup x = some c'
  | (y, d) :: r, x, c, h => by
    rw [List.lookup_cons]
    cases hx : x == y with
    | true => exact ⟨d, rfl⟩
    | false =>
      rcases List.mem_cons.mp h with e | h
      . cases e; simp at hx
      . exact a6f h
theorem b7o {env : Env} {scope : Scope} (h : ∀ y ∈ scope.names, y.2 = .free -> ∃ c, env.cells.lookup y.1 = some c) :
    ∃ cl, closureFor scope env = pure cl /\ (∀ x c, cl.lookup x = some c -> env.cells.lookup x = some c) /\ (∀ y ∈ scope.names, y.2 = .free -> ∃ c, cl.lookup y.1 = some c) := by
  refine b1q (a4i (env := env) (fun x cs => if x.2 == .free then (do let a ← cellOf env x.1; pure (.yield ((x.1, a) :: cs))) else pure (.yield cs)) (fun ζ ζ ζ => rfl) scope.names [] h) fun cl h1 h2 h3 ζ => ?_
  refine ⟨cl, ?_, fun x c e => (h2 x c (mem_of_lookup e)).elim (fun h => by cases h) id, fun y hy hk => ?_⟩
  . unfold closureFor
    have : ∀ (l : List (Str × NameKind)) (acc : List (Str × Addr)), (forIn l acc fun (x : Str × NameKind) (r : List (Str × Addr)) => (if x.2 == .free then (do let a ← cellOf env x.1; pure (.yield ((x.1, a) :: r))) else pure (.yield r) : Sem _)) = forIn l acc fun x cs => if x.2 == .free then (do let a ← cellOf env x.1; pure (.yield ((x.1, a) :: cs))) else pure (.yield cs) := fun ζ ζ => rfl
    simp only [bind_pure]
    first
      | exact h1
      | (refine Eq.trans ?_ h1; congr 1; funext x r; obtain ⟨n, kd⟩ := x; cases hkd : kd == NameKind.free <;> simp [hkd])
  . obtain ⟨c, hc⟩ := h3 y hy hk
    exact a6f hc
end Mine
end
section
open PySem PyProof.Rows PySem.SeqAt
namespace Mine
section
variable {prog : Program} {w : World} {A : Around} {s : Shared} {R : Result -> Shared -> Prop}
theorem a5h {elt target iter : Expr} {ifs : List Expr} {scope : Scope} {pos : Pos} {it acc : Value} {env : Env} (I : Nat -> Shared -> Prop)
    (turn : ∀ n s, I n s -> wpAny (model prog w) A (pyNext it) (fun r s₁ => match r with
      | none => R (.ok .next) s₁
      | some v => wpAny (model prog w) A (letOwnedTupleGo target it v) (fun ζ s₁' => wpAny (model prog w) A (assign target env v) (fun ζ s₂ =>
          wpAny (model prog w) A (forIn ifs true fun c r => if r = true then do let ok ← isTrue c env (eval c env); pure (ForInStep.yield ok) else pure (ForInStep.yield r)) (fun ok s₃ =>
            if ok = true then wpAny (model prog w) A (eval elt env) (fun x s₄ =>
              wpAny (model prog w) A (call (.builtin "list.append") [acc, x]) (fun ζ s₅ => ∃ m, m < n /\ I m s₅) (fun ζ ζ => False) s₄) (fun ζ ζ => False) s₃
            else ∃ m, m < n /\ I m s₃) (fun ζ ζ => False) s₂) (fun ζ ζ => False) s₁') (fun ζ ζ => False) s₁) (fun ζ ζ => False) s)
    (n : Nat) (h : I n s) :
    codeAny (model prog w) A (.compLoop (.ListComp elt [⟨target, iter, ifs, 0⟩] scope pos) 0 it acc env) R s := by
  refine codeAny_loop rfl I (fun n s hI => ?_) n h
  show wpAny _ A ((compTurn (.ListComp elt [⟨target, iter, ifs, 0⟩] scope pos) 0 it acc env).onRaise (fun x => do noteFrame x env; theTreesLotGoes x)) _ _ s
  refine wpAny_noted ?_
  erw [compTurn_list]
  refine wpAny_bind (wpAny_standAt (wpAny_bind (wpAny_mono (turn n s hI) (fun r s₁ h₁ => ?_) fun ζ ζ h' => h'.elim)))
  cases r with
  | none => exact wpAny_pure h₁
  | some v =>
    refine wpAny_bind (wpAny_mono h₁ (fun ζ s₁' h₁' => ?_) fun ζ ζ h' => h'.elim)
    refine wpAny_bind (wpAny_mono h₁' (fun ζ s₂ h₂ => wpAny_bind (wpAny_mono h₂ (fun ok s₃ h₃ => ?_) fun ζ ζ h' => h'.elim)) fun ζ ζ h' => h'.elim)
    cases ok with
    | false => exact wpAny_pure ⟨rfl, h₃⟩
    | true =>
      exact wpAny_bind (wpAny_bind (wpAny_mono h₃ (fun x s₄ h₄ => wpAny_bind (wpAny_mono h₄ (fun ζ s₅ h₅ => wpAny_pure (wpAny_pure ⟨rfl, h₅⟩)) fun ζ ζ h' => h'.elim)) fun ζ ζ h' => h'.elim))
end
section
variable {W : World0} {k : Nat} {A : Around} {s s' s'' : Shared} {F : Addr -> Prop} {sc : Scope}
variable {gl : Str -> Option Value} {X Y : Cx} {names : List Str} {ρ ρ' : List (Option V)} {σ σ' σ'' : List O} {Λ Λ' Λ'' : Addr -> Prop} {ad ad' ad'' : List Addr}
theorem St.pokeL (S : St gl X names ρ σ Λ ad s) {z : Addr} (hΛ : Λ z) (hA : z ∉ ad) (hL : z ≠ X.env.locals) (hT : ∀ vs n, s.heap.get? z ≠ some (TO vs n)) (hC : ∀ v, ¬ s.heap.IsCell z v) {h' : Heap} {t : Nat} (hk : ∀ b, b ≠ z -> h'.get? b = s.heap.get? b) (hex : ∃ o, h'.get? z = some o) :
    St gl X names ρ σ Λ ad { s with heap := h', toks := t } /\ Keep Λ Λ s.heap h' := by
  have K : Keep Λ Λ s.heap h' := ⟨fun a vs n e => by erw [hk a fun h => by subst h; exact hT _ _ e]; exact e, fun a o nl d e => by erw [hk a fun h => nl (h ▸ hΛ)]; exact e, fun ζ ζ n ζ ζ => n⟩
  have dom : ∀ a o, s.heap.get? a = some o -> ∃ o', h'.get? a = some o' := fun a o e => by
    by_cases h : a = z
    . subst h; exact hex
    . erw [hk a h]; exact ⟨o, e⟩
  refine ⟨⟨fun b o e => ?_, S.os, S.gens, S.new, fun a l => ?_, S.phi, S.nd, S.len, fun a ha => ?_, fun j a o e1 e2 e3 => ?_, S.locL, S.locA, S.cellN, S.rl, ?_⟩, K⟩
  . show h'.get? b = some o
    rw [hk b fun h => by subst h; rw [S.new b hΛ] at e; exact dNS e]; exact S.keep b o e
  . obtain ⟨o, e⟩ := S.lt a l; exact dom a o e
  . obtain ⟨o, e⟩ := S.adl a ha; exact dom a o e
  . obtain ⟨h1, h2⟩ := S.objs j a o e1 e2 e3
    exact ⟨h1, h2.keep K (fun ζ ζ e => e) fun ob e => by show h'.get? a = some ob; erw [hk a fun h => hA (h ▸ a0j e1)]; exact e⟩
  . refine a1f S.vars fun m cm hn hc hv => ?_
    refine ⟨m, cm, ?_, fun x c e => ?_, fun x i val e1 e2 => ⟨fun h => ?_, fun h => ?_⟩⟩
    . obtain ⟨o, es, ep, e, r⟩ := hn
      exact ⟨o, es, ep, by show h'.get? _ = _; erw [hk _ (Ne.symm hL)]; exact e, r⟩
    . have hcc := hc x c e
      obtain ⟨o, e', d⟩ := hc x c e
      exact ⟨o, by show h'.get? _ = _; rw [hk _ fun h => by subst h; exact hC _ hcc]; exact e', d⟩
    . refine xEA ((hv x i val e1 e2).1 h) fun v g1 g2 => ?_; exact ⟨v, g1, g2.keep K fun ζ ζ e => e⟩
    . refine a1f ((hv x i val e1 e2).2 h) fun c v g0 g1 g2 => ?_; exact ⟨c, v, g0, g1, g2.keep K fun ζ ζ e => e⟩
theorem St.drop (S : St gl X names ρ σ Λ ad s) {z : Addr} (hΛ : Λ z) (hA : z ∉ ad) (hL : z ≠ X.env.locals) (hT : ∀ vs n, s.heap.get? z ≠ some (TO vs n)) (hC : ∀ v, ¬ s.heap.IsCell z v) {h' : Heap} {t : Nat} (hk : ∀ b, b ≠ z -> h'.get? b = s.heap.get? b) :
    St gl X names ρ σ (fun b => Λ b /\ b ≠ z) ad { s with heap := h', toks := t } /\ Keep Λ (fun b => Λ b /\ b ≠ z) s.heap h' := by
  have K : Keep Λ (fun b => Λ b /\ b ≠ z) s.heap h' := ⟨fun a vs n e => by erw [hk a fun h => by subst h; exact hT _ _ e]; exact e, fun a o nl d e => by erw [hk a fun h => nl (h ▸ hΛ)]; exact e, fun ζ ζ n ζ ζ h => n h.1⟩
  refine ⟨⟨fun b o e => ?_, S.os, S.gens, fun a l => S.new a l.1, fun a l => ?_, S.phi, S.nd, S.len, fun a ha => ?_, fun j a o e1 e2 e3 => ?_, ⟨S.locL, Ne.symm hL⟩, S.locA, S.cellN, S.rl, ?_⟩, K⟩
  . show h'.get? b = some o
    rw [hk b fun h => by subst h; rw [S.new b hΛ] at e; exact dNS e]; exact S.keep b o e
  . obtain ⟨o, e⟩ := S.lt a l.1; exact ⟨o, by show h'.get? a = _; erw [hk a l.2]; exact e⟩
  . obtain ⟨o, e⟩ := S.adl a ha; exact ⟨o, by show h'.get? a = _; erw [hk a fun h => hA (h ▸ ha)]; exact e⟩
  . obtain ⟨h1, h2⟩ := S.objs j a o e1 e2 e3
    have hne : a ≠ z := fun h => hA (h ▸ a0j e1)
    exact ⟨⟨h1, hne⟩, h2.keep K (fun ζ ζ e => e) fun ob e => by show h'.get? a = some ob; erw [hk a hne]; exact e⟩
  . refine a1f S.vars fun m cm hn hc hv => ?_
    refine ⟨m, cm, ?_, fun x c e => ?_, fun x i val e1 e2 => ⟨fun h => ?_, fun h => ?_⟩⟩
    . obtain ⟨o, es, ep, e, r⟩ := hn
      exact ⟨o, es, ep, by show h'.get? _ = _; erw [hk _ (Ne.symm hL)]; exact e, r⟩
    . have hcc := hc x c e
      obtain ⟨o, e', d⟩ := hc x c e
      exact ⟨o, by show h'.get? _ = _; rw [hk _ fun h => by subst h; exact hC _ hcc]; exact e', d⟩
    . refine xEA ((hv x i val e1 e2).1 h) fun v g1 g2 => ?_; exact ⟨v, g1, g2.keep K fun ζ ζ e => e⟩
    . refine a1f ((hv x i val e1 e2).2 h) fun c v g0 g1 g2 => ?_; exact ⟨c, v, g0, g1, g2.keep K fun ζ ζ e => e⟩
end
end Mine
end
section
open PySem PyProof.Rows PySem.SeqAt
namespace Mine
theorem b6h : ∀ {l : List Str} {x : Str}, x ∉ l -> vis l x = none
  | [], _, _ => rfl
  | y :: ys, x, h => by
    simp only [List.mem_cons, not_or] at h
    unfold vis; erw [b6h h.2]; simp [h.1]
theorem b0t (y : Str) (ys : List Str) (x : Str) : vis (y :: ys) x = match vis ys x with | some i => some (i + 1) | none => if x == y then some 0 else none := rfl
theorem b4n : ∀ (a b : List Str) (x : Str), vis (a ++ b) x = match vis b x with | some j => some (a.length + j) | none => vis a x
  | [], b, x => by cases h : vis b x <;> simp [h, vis]
  | y :: a, b, x => by
    erw [List.cons_append, b0t, b4n a b x]
    cases h : vis b x with
    | some j => simp only [List.length_cons]; congr 1; exact om18
    | none => simp only; erw [b0t]
theorem c6k (l r : List Str) (x : Str) (h : x ∉ r) : vis (l ++ x :: r) x = some l.length := by
  erw [b4n]
  have : vis (x :: r) x = some 0 := by unfold vis; erw [b6h h]; simp
  erw [this]; simp
noncomputable def idx (n : Nat) : Nat -> List Nat
  | 0 => []
  | k + 1 => n :: idx (n + 1) k
theorem b7p (k : Nat) : ∀ n : Nat, (idx n k).length = k := by
  induction k with
  | zero => exact fun ζ => rfl
  | succ k ih => exact fun n => congrArg Nat.succ (ih (n + 1))
theorem b4o {l : List V} : ∀ {a t : List (Option V)}, t.length = l.length -> a3r (a ++ t) (idx a.length l.length) l = a ++ l.map some := by
  induction l with
  | nil => intro a t h; erw [List.length_eq_zero_iff.mp h]; rfl
  | cons x l ih =>
    intro a t h
    cases t with
    | nil => cases h
    | cons y t =>
      show a3r ((a ++ y :: t).set a.length (some x)) (idx (a.length + 1) l.length) l = a ++ some x :: l.map some
      have e : (a ++ y :: t).set a.length (some x) = (a ++ [some x]) ++ t := by simp
      have k := ih (a := a ++ [some x]) (Nat.succ.inj h)
      rw [List.length_append] at k
      erw [e]
      exact k.trans (List.append_cons a (some x) (l.map some)).symm
theorem c8k : ∀ ts : List Expr, (a0d ts).length <= ts.length
  | [] => Nat.le_refl _
  | a :: b => by
    cases a with
    | Name x p => exact Nat.succ_le_succ (c8k b)
    | _ => exact Nat.le_succ_of_le (c8k b)
theorem tn_no {ts : List Expr} {P : Prop} (h : ts.length + 1 = (a0d ts).length) : P := absurd h (Nat.ne_of_gt (Nat.lt_succ_of_le (c8k ts)))
theorem a9u {sc : Scope} : ∀ {ts : List Expr} {pre : List Str}, ts.length = (a0d ts).length -> (∀ x ∈ a0d ts, sc.names.lookup x = some .local) -> (a0d ts).Nodup ->
    a0v (pre ++ a0d ts) sc (idx pre.length ts.length) ts = true
  | [], pre, _, _, _ => rfl
  | e :: ts, pre, hl, hloc, nd => by
    cases e with
    | Name x p =>
      have hl : ts.length + 1 = (a0d ts).length + 1 := hl
      have hloc : ∀ y ∈ x :: a0d ts, sc.names.lookup y = some .local := hloc
      have nd : (x :: a0d ts).Nodup := nd
      obtain ⟨n1, n2⟩ := List.nodup_cons.mp nd
      have ih := a9u (sc := sc) (ts := ts) (pre := pre ++ [x]) (Nat.succ.inj hl) (fun y hy => hloc y (List.mem_cons_of_mem _ hy)) n2
      show (a1h (pre ++ x :: a0d ts) sc pre.length x && a0v (pre ++ x :: a0d ts) sc (idx (pre.length + 1) ts.length) ts) = true
      erw [Bool.and_eq_true]
      refine ⟨?_, by simpa using ih⟩
      unfold a1h
      erw [hloc x List.mem_cons_self, c6k _ _ _ n1]; simp
    | _ => exact tn_no hl
noncomputable def b4p (ρ : List (Option V)) (σ : List O) (one : Bool) (kk : Nat) (x : V) : Option (List (Option V)) :=
  if one then some (ρ ++ [some x]) else bTup (seqV σ x) fun l => if l.length = kk then some (ρ ++ l.map some) else none
noncomputable def b0u (W : World0) (k : Nat) (elt : CE) (cond : Option CE) (ρ : List (Option V)) (σ : List O) (one : Bool) (kk : Nat) (x : V) (Y : Option D -> Prop) : Prop :=
  ∃ ρx, b4p ρ σ one kk x = some ρx /\ match cond with
    | none => TE W k elt ρx σ fun v σ₂ => σ₂ = σ /\ ∃ z, v = .d z /\ Y (some z)
    | some c => TC W k c ρx σ fun b σ₂ => σ₂ = σ /\ if b then TE W k elt ρx σ (fun v σ₃ => σ₃ = σ /\ ∃ z, v = .d z /\ Y (some z)) else Y none
structure CmpT (names : List Str) (sc csc : Scope) (one : Bool) (kk : Nat) (tg : Expr) (tn : List Str) : Prop where
  len : tn.length = kk
  tgt : a6e (names ++ tn) csc one (idx names.length kk) tg = true
  loc : ∀ x ∈ tn, csc.names.lookup x = some .local
  kind : csc.kind = .function
  nocell : ∀ y ∈ csc.names, y.2 ≠ .cell
  lcl : ∀ y ∈ csc.names, y.2 = .local -> csc.names.lookup y.1 = some .local
  only : ∀ y ∈ csc.names, y.2 = .local -> y.1 ∈ tn ∨ y.1 ∉ names
  free : ∀ y ∈ csc.names, y.2 = .free -> sc.names.lookup y.1 = some .cell ∨ sc.names.lookup y.1 = some .free
  one1 : one = true -> kk = 1
theorem a6t {names : List Str} {sc : Scope} {elt iter : CE} {kk : Nat} {one : Bool} {cond : Option CE} {E : Expr} (h : isE names sc (.comp elt kk one iter cond) E = true) :
    ∃ el tg it ifs csc pos tn, E = .ListComp el [⟨tg, it, ifs, 0⟩] csc pos /\ CmpT names sc csc one kk tg tn /\ isE names sc iter it = true /\ isE (names ++ tn) csc elt el = true /\ isEc (names ++ tn) csc cond ifs = true := by
  have nocell : ∀ {csc : Scope}, (csc.names.all fun y => y.2 != .cell && (y.2 != .local || csc.names.lookup y.1 == some .local)) = true -> ∀ y ∈ csc.names, y.2 ≠ .cell := fun h3 y hy => by
    have := List.all_eq_true.mp h3 y hy
    simp only [Bool.and_eq_true, bne_iff_ne] at this
    exact this.1
  have lcl : ∀ {csc : Scope}, (csc.names.all fun y => y.2 != .cell && (y.2 != .local || csc.names.lookup y.1 == some .local)) = true -> ∀ y ∈ csc.names, y.2 = .local -> csc.names.lookup y.1 = some .local := fun h3 y hy hl => by
    have := List.all_eq_true.mp h3 y hy
    simp only [Bool.and_eq_true, Bool.or_eq_true, bne_iff_ne, beq_iff_eq] at this
    exact this.2.resolve_left fun h => h hl
  have last : ∀ {csc : Scope} {l : List Str}, (csc.names.all fun y => (y.2 != .free || (sc.names.lookup y.1 == some .cell || sc.names.lookup y.1 == some .free)) && (y.2 != .local || l.contains y.1 || !names.contains y.1)) = true ->
      (∀ y ∈ csc.names, y.2 = .local -> y.1 ∈ l ∨ y.1 ∉ names) /\ ∀ y ∈ csc.names, y.2 = .free -> sc.names.lookup y.1 = some .cell ∨ sc.names.lookup y.1 = some .free := fun h5 => ⟨fun y hy hl => by
    have := List.all_eq_true.mp h5 y hy
    simp only [Bool.and_eq_true, Bool.or_eq_true, bne_iff_ne, Bool.not_eq_true', List.contains_eq_mem, decide_eq_true_eq, decide_eq_false_iff_not] at this
    rcases this.2 with (h | h) | h
    . exact absurd hl h
    . exact .inl h
    . exact .inr h, fun y hy hl => by
    have := List.all_eq_true.mp h5 y hy
    simp only [Bool.and_eq_true, Bool.or_eq_true, bne_iff_ne, beq_iff_eq] at this
    exact this.1.resolve_left fun h => h hl⟩
  rcases inv_comp h with ⟨el, x, px, it, ifs, csc, pos, rfl, rfl, hh⟩ | ⟨el, ts, a, b, it, ifs, csc, pos, rfl, rfl, hh⟩
  . simp only [Bool.and_eq_true] at hh
    (refine xA hh fun ε0 h5 => ?_; obtain ⟨⟨⟨h1, h2⟩, h3⟩, h4⟩ := ε0)
    unfold a2b at h1
    simp only [Bool.and_eq_true, beq_iff_eq] at h1
    simp only [beq_iff_eq] at h4
    (refine xA h4 fun ε0 hc => ?_; obtain ⟨⟨rfl, hx⟩, he⟩ := ε0)
    refine ⟨el, _, it, ifs, csc, pos, [x], rfl, ⟨rfl, ?_, by simpa using hx, h1.1.1, nocell h3, lcl h3, (last h5).1, (last h5).2, fun ζ => rfl⟩, h2, he, hc⟩
    show a1h (names ++ [x]) csc names.length x = true
    unfold a1h
    erw [hx, c6k _ _ _ (by simp)]; simp
  . simp only [Bool.and_eq_true] at hh
    (refine xA hh fun ε0 h5 => ?_; obtain ⟨⟨⟨h1, h2⟩, h3⟩, h4⟩ := ε0)
    unfold a2b at h1
    simp only [Bool.and_eq_true, beq_iff_eq] at h1
    simp only [beq_iff_eq, decide_eq_true_eq, List.all_eq_true] at h4
    (refine xA h4 fun ε0 hc => ?_; obtain ⟨⟨⟨⟨hl1, hl2⟩, hloc⟩, nd⟩, he⟩ := ε0)
    refine ⟨el, _, it, ifs, csc, pos, a0d ts, rfl, ⟨hl2, ?_, hloc, h1.1.1, nocell h3, lcl h3, (last h5).1, (last h5).2, fun h => by exact dFT h⟩, h2, he, hc⟩
    show a0v (names ++ a0d ts) csc (idx names.length kk) ts = true
    have := a9u (sc := csc) (ts := ts) (pre := names) (by erw [hl1, hl2]) hloc nd
    rw [hl1] at this; exact this
end Mine
end
section
open PySem PyProof.Rows PySem.SeqAt
namespace Mine
section
variable {W : World0} {k : Nat} {A : Around} {s s' s'' : Shared} {F : Addr -> Prop} {sc csc : Scope}
variable {gl : Str -> Option Value} {X : Cx} {names : List Str} {ρ ρ' : List (Option V)} {σ σ' σ'' : List O} {Λ Λ' Λ'' : Addr -> Prop} {ad ad' ad'' : List Addr}
variable {one : Bool} {kk : Nat} {tg : Expr} {tn : List Str} {cl : List (Str × Addr)} {C : Addr}
theorem a6g (T : CmpT names sc csc one kk tg tn) (x : Str) : (compEnvC csc cl C X.env).kindOf x = (csc.names.lookup x).map fun k => if (k == NameKind.free && X.env.scope.kind == .function && X.env.kindOf x == some .cell) then NameKind.cell else k := a5l _ _
theorem b0v (T : CmpT names sc csc one kk tg tn) {x : Str} (h : (compEnvC csc cl C X.env).kindOf x = some .cell ∨ (compEnvC csc cl C X.env).kindOf x = some .free) : csc.names.lookup x = some .free := by
  rw [a6g T] at h
  cases e : csc.names.lookup x with
  | none => rw [e] at h; rcases h with h | h <;> exact dNS h
  | some kd =>
    have hm := mem_of_lookup e
    rw [e] at h
    simp only [Option.map_some, Option.some.injEq] at h
    cases kd with
    | free => rfl
    | cell => exact absurd rfl (T.nocell _ hm)
    | _ => rcases h with h | h <;> simp at h
theorem b9u (T : CmpT names sc csc one kk tg tn) (hk : KindsOk X.env sc) (hcl : ∀ y ∈ csc.names, y.2 = .free -> ∃ c, cl.lookup y.1 = some c) : KindsOk (compEnvC csc cl C X.env) csc where
  kind := T.kind
  glob := hk.glob
  blt := hk.blt
  loc := fun x h => lookup_relabel_local h
  cel := fun x h => by
    erw [a6g T]
    rcases h with h | h
    . exact absurd rfl (T.nocell _ (mem_of_lookup h))
    . erw [h]; simp only [Option.map_some, Option.some.injEq]; split
      . exact .inl rfl
      . exact .inr rfl
  glo := fun x h => by erw [a6g T, h]; rfl
  apart := fun ⟨x, h⟩ => absurd rfl (T.nocell _ (mem_of_lookup h))
  celE := fun x h => hcl _ (mem_of_lookup (b0v T h)) rfl
  celS := fun x h => absurd rfl (T.nocell _ (mem_of_lookup h))
noncomputable def cmpX (X : Cx) (csc : Scope) (cl : List (Str × Addr)) (C : Addr) : Cx := { X with env := compEnvC csc cl C X.env }
set_option tactic.hygienic true in
theorem b9v (T : CmpT names sc csc one kk tg tn) (hk : KindsOk X.env sc) (S : St W.gl X names ρ σ Λ ad s) (hcl : ∀ x c, cl.lookup x = some c -> X.env.cells.lookup x = some c) (hcl2 : ∀ y ∈ csc.names, y.2 = .free -> ∃ c, cl.lookup y.1 = some c) {D C : Addr} (hD : s.heap.get? D = none) (hC : s.heap.get? C = none) (hDC : D ≠ C) {s' : Shared} {m : Str -> Option Value}
    (kp : ∀ b o, s.heap.get? b = some o -> s'.heap.get? b = some o) (ho : s'.os = s.os) (hg : s'.gens = s.gens) (hn : s'.heap.Ns C m) (hd : ∃ o, s'.heap.get? D = some o) :
    St W.gl (cmpX X csc cl C) (names ++ tn) (ρ ++ List.replicate kk none) σ (fun b => Λ b ∨ b = C ∨ b = D) ad s' /\ Step (fun ζ => False) σ ad Λ s.heap σ ad (fun b => Λ b ∨ b = C ∨ b = D) s'.heap := by
  have K : Keep Λ (fun b => Λ b ∨ b = C ∨ b = D) s.heap s'.heap := ⟨fun a vs n e => kp _ _ e, fun a o ζ ζ e => kp a o e, fun a o nl ζ e h => by
    rcases h with h | rfl | rfl
    . exact nl h
    . exact dGN hC e
    . exact dGN hD e⟩
  have hnew : ∀ z, s.heap.get? z = none -> X.hB.get? z = none := fun z hz => by
    cases e : X.hB.get? z with
    | none => rfl
    | some o => rw [S.keep z o e] at hz; exact dSN hz
  have hCo : ∃ o, s'.heap.get? C = some o := let ⟨o, _, _, e, _⟩ := hn; ⟨o, e⟩
  refine ⟨⟨fun b o e => kp b o (S.keep b o e), ho.trans S.os, hg.trans S.gens, fun a l => ?_, fun a l => ?_, S.phi, S.nd, S.len, fun a ha => ?_, fun i a o e1 e2 e3 => ?_, .inr (.inl rfl), fun h => ?_, fun x c h1 h2 => ?_, ?_, ?_⟩, ?_⟩
  . rcases l with l | rfl | rfl
    . exact S.new a l
    . exact hnew _ hC
    . exact hnew _ hD
  . rcases l with l | rfl | rfl
    . obtain ⟨o, e⟩ := S.lt a l; exact ⟨o, kp a o e⟩
    . exact hCo
    . exact hd
  . obtain ⟨o, e⟩ := S.adl a ha; exact ⟨o, kp a o e⟩
  . obtain ⟨h1, h2⟩ := S.objs i a o e1 e2 e3
    exact ⟨.inl h1, h2.keep K (fun ζ ζ e => e) fun ob e => kp a ob e⟩
  . obtain ⟨o, e⟩ := S.adl _ h
    have : s.heap.get? C = some o := e
    exact dGN hC this
  . have hf := b0v T (.inl h1)
    have : X.env.kindOf x = some .cell := by
      have h1' : (compEnvC csc cl C X.env).kindOf x = some .cell := h1
      rw [a6g T, hf] at h1'
      simp only [Option.map_some, Option.some.injEq] at h1'
      split at h1'
      . rename_i hh; simp only [Bool.and_eq_true, beq_iff_eq] at hh; exact hh.2
      . cases h1'
    exact S.cellN x c this (hcl x c h2)
  . simp [S.rl, T.len]
  . refine a1f S.vars fun m₀ cm hn₀ hc hv => ?_
    refine ⟨m, cm, hn, fun x c e => ?_, fun x i val e1 e2 => ?_⟩
    . obtain ⟨o, e', d⟩ := hc x c (hcl x c e); exact ⟨o, kp _ _ e', d⟩
    . have hlt : i < ρ.length := by
        rcases Nat.lt_or_ge i ρ.length with h | h
        . exact h
        . rw [List.getElem?_append_right h, List.getElem?_replicate] at e2
          split at e2 <;> simp at e2
      rw [List.getElem?_append_left hlt] at e2
      have hv' : vis names x = some i /\ x ∉ tn := by
        rw [b4n] at e1
        cases e : vis tn x with
        | some j =>
          rw [e] at e1
          simp only [Option.some.injEq] at e1
          rw [S.rl] at hlt; omega
        | none =>
          rw [e] at e1
          refine ⟨e1, fun hm => ?_⟩
          have : ∀ {l : List Str}, x ∈ l -> vis l x ≠ none := by
            intro l
            induction l with
            | nil => intro h; cases h
            | cons y ys ih =>
              intro h
              erw [b0t]
              rcases List.mem_cons.mp h with rfl | h
              . cases h2 : vis ys x <;> simp
              . cases h2 : vis ys x with
                | none => exact absurd h2 (ih h)
                | some j => simp
          exact this hm e
      refine ⟨fun h => ?_, fun h => ?_⟩
      . have h' : (compEnvC csc cl C X.env).kindOf x = some .local := h
        rw [a6g T] at h'
        cases e : csc.names.lookup x with
        | none => rw [e] at h'; exact dNS h'
        | some kd =>
          rw [e] at h'
          simp only [Option.map_some, Option.some.injEq] at h'
          have hkd : kd = .local := by
            split at h'
            . cases h'
            . exact h'
          subst hkd
          rcases T.only _ (mem_of_lookup e) rfl with h | h
          . exact absurd h hv'.2
          . exact absurd (List.mem_of_getElem? (a8n hv'.1)) h
      . have hf := b0v T h
        have hsc := T.free _ (mem_of_lookup hf) rfl
        refine a1f ((hv x i val hv'.1 e2).2 (hk.cel x hsc)) fun c v g0 g1 g2 => ?_
        obtain ⟨c', hc'⟩ := hcl2 _ (mem_of_lookup hf) rfl
        have := hcl x c' hc'
        rw [g0] at this; cases this
        exact ⟨c, v, hc', g1, g2.keep K fun ζ ζ e => e⟩
  . exact ⟨fun a o ζ ζ e => kp a o e, fun a o e => ⟨o, kp a o e⟩, fun a l => by
      rcases l with l | rfl | rfl
      . exact .inl l
      . exact .inr hC
      . exact .inr hD, fun ζ ζ e => e, fun ζ l => .inl l, fun ζ l => .inl l, fun ζ ζ ζ l ζ => .inl l⟩
theorem b9w {t : List (Option V)} {x : V} {ρx : List (Option V)} (hrl : ρ.length = names.length) (ht : t.length = kk) (h1 : one = true -> kk = 1) (e : b4p ρ σ one kk x = some ρx) :
    c3w (ρ ++ t) σ one (idx names.length kk) x = some ρx /\ ∃ t', ρx = ρ ++ t' /\ t'.length = kk := by
  cases one with
  | true =>
    obtain rfl := h1 rfl
    obtain rfl := a0q (show some (ρ ++ [some x]) = some ρx from e)
    refine ⟨?_, [some x], rfl, rfl⟩
    cases t with
    | nil => cases ht
    | cons y t =>
      obtain rfl : t = [] := List.length_eq_zero_iff.mp (Nat.succ.inj ht)
      show some ((ρ ++ [y]).set names.length (some x)) = some (ρ ++ [some x])
      erw [← hrl]; simp
  | false =>
    refine xEA (b2m (o := seqV σ x) e) fun l heq e => ?_
    obtain ⟨hl, rfl⟩ := a4s e
    refine ⟨?_, l.map some, rfl, by erw [List.length_map]; exact hl⟩
    show bTup (seqV σ x) _ = _
    erw [heq]
    refine (if_pos (hl.trans (b7p kk _).symm)).trans (congrArg some ?_)
    erw [← hrl, ← hl]; exact b4o (ht.trans hl.symm)
theorem gne {h : Heap} {a b : Addr} {o : Obj} (hn : h.get? a = none) (e : h.get? b = some o) : b ≠ a := fun q => cGN hn (q ▸ e)
theorem Step.poke {exc : Addr -> Prop} {h h₁ h₂ : Heap} (P : Step exc σ ad Λ h σ' ad' Λ' h₁) {I : Addr} (hI : h.get? I = none) (hk : ∀ b o, b ≠ I -> h₁.get? b = some o -> h₂.get? b = some o) : Step exc σ ad Λ h σ' ad' Λ' h₂ :=
  ⟨fun a o nl ne e => hk a o (gne hI e) (P.only a o nl ne e), fun a o e => (P.dom a o e).elim fun o' e' => ⟨o', hk a o' (gne hI e) e'⟩, P.lamO, P.pre, P.liv, P.adO, P.res⟩
theorem Step.past {exc : Addr -> Prop} {h h₁ h₂ : Heap} (P : Step (fun ζ => False) σ ad Λ h σ' ad' Λ' h₁) (R : Step exc σ' ad' Λ' h₁ σ'' ad'' Λ'' h₂) (hx : ∀ a, exc a -> h.get? a = none) : Step (fun ζ => False) σ ad Λ h σ'' ad'' Λ'' h₂ :=
  ⟨fun a o nl ne e => R.only a o (fun l => (P.liv a l).elim nl fun l' => cGN l' e) (fun l => cGN (hx a l) e) (P.only a o nl ne e), fun a o e => (P.dom a o e).elim fun o' e' => R.dom a o' e',
    fun a l => (R.lamO a l).elim (P.lamO a) fun l' => .inr (a2j P.dom l'), fun i a e => R.pre i a (P.pre i a e), fun a l => (R.liv a l).elim (P.liv a) fun l' => .inr (a2j P.dom l'),
    fun a l => (R.adO a l).elim (P.adO a) fun l' => .inr (a2j P.dom l'), fun a o e l nl => (P.dom a o e).elim fun o' e' => R.res a o' e' (P.res a o e l nl) fun l' => (P.liv a l').elim nl fun l'' => cGN l'' e⟩
theorem a7v {h : Heap} {c : Addr} {o o' : Obj} {v : Option Value} (e : h.get? c = some o) (e' : h.get? c = some o') (d : o.data = .cell v) : o'.data = .cell v := a0q (e.symm.trans e') ▸ d
theorem b2p (S : St gl X names ρ σ Λ ad s) {c : Addr} {o : Obj} {v : Option Value} (l : a2w σ ad c) (e : s.heap.get? c = some o) (d : o.data = .cell v) : False := by
  obtain ⟨i, o', e1, e2, e3⟩ := l
  have h2 := (S.objs i c o' e1 e2 e3).2
  cases o' with
  | lst l => exact h2.elim fun ζ h => h.elim fun ζ h => nomatch a7v e h.1 d
  | dI l => exact h2.elim fun ζ h => h.elim fun ζ h => nomatch a7v e h.1 d
  | dT l => exact h2.elim fun ζ h => h.elim fun ζ h => nomatch a7v e h.1 d
  | lstV l => exact h2.elim fun ζ h => h.elim fun ζ h => nomatch a7v e h.1 d
  | dead => exact e3 rfl
theorem VRels.append {gl : Str -> Option Value} {h : Heap} {Λ Φ : Addr -> Prop} {ad : List Addr} {vs ws : List Value} {l m : List V} (a : VRels gl h Λ Φ ad vs l) (b : VRels gl h Λ Φ ad ws m) : VRels gl h Λ Φ ad (vs ++ ws) (l ++ m) :=
  VRels.ind (M := fun vs l => VRels gl h Λ Φ ad (vs ++ ws) (l ++ m)) b (fun r ζ ih => .cons r ih) a
theorem St.outerV {Y : Cx} (S₁ : St gl X names ρ σ Λ ad s) {names' : List Str} (S₂ : St gl Y names' ρ' σ' Λ' ad' s') (hB : Y.hB = X.hB) (ho : Y.os = X.os) (hg : Y.gens = X.gens) (hΦ : Y.Φ = X.Φ) (P : Step (fun ζ => False) σ ad Λ s.heap σ' ad' Λ' s'.heap) : St gl X names ρ σ' Λ' ad' s' := by
  refine a1f S₁.vars fun m cm hn hc hv => ?_
  obtain ⟨oL, es, ep, eL, r⟩ := id hn
  have nlive : ¬ a2w σ ad X.env.locals := fun ⟨i, o, e1, _⟩ => S₁.locA (a0j e1)
  have K := (P.weak (exc' := a2n X.env) fun ζ f => f.elim).keepS S₁
  refine ⟨fun b o e => S₂.keep b o (hB ▸ e), S₂.os.trans ho, S₂.gens.trans hg, fun a l => hB ▸ S₂.new a l, S₂.lt, S₁.phi, S₂.nd, S₂.len, S₂.adl, fun i a o e1 e2 e3 => hΦ ▸ S₂.objs i a o e1 e2 e3, P.res _ _ eL S₁.locL nlive, fun h => (P.adO _ h).elim S₁.locA fun h => cGN h eL, S₁.cellN, S₁.rl, m, cm, ⟨oL, es, ep, P.only _ _ nlive (fun f => f) eL, r⟩, fun x c e => ?_, fun x i val e1 e2 => ⟨fun h => ?_, fun h => ?_⟩⟩
  . obtain ⟨o, e', d⟩ := hc x c e
    exact ⟨o, P.only c o (fun l => b2p S₁ l e' d) (fun f => f) e', d⟩
  . refine xEA ((hv x i val e1 e2).1 h) fun v g1 g2 => ?_; exact ⟨v, g1, g2.keep K P.pre⟩
  . refine a1f ((hv x i val e1 e2).2 h) fun c v g0 g1 g2 => ?_; exact ⟨c, v, g0, g1, g2.keep K P.pre⟩
theorem St.shed (S : St gl X names ρ σ Λ ad s) {D : Addr} (hA : D ∉ ad) (hL : D ≠ X.env.locals) : St gl X names ρ σ (fun b => Λ b /\ b ≠ D) ad s := by
  have K : Keep Λ (fun b => Λ b /\ b ≠ D) s.heap s.heap := .weak fun ζ h => h.1
  refine a1f S.vars fun m cm hn hc hv => ?_
  refine ⟨S.keep, S.os, S.gens, fun a l => S.new a l.1, fun a l => S.lt a l.1, S.phi, S.nd, S.len, S.adl, fun i a o e1 e2 e3 => ?_, ⟨S.locL, Ne.symm hL⟩, S.locA, S.cellN, S.rl, m, cm, hn, hc, fun x i val e1 e2 => ⟨fun h => ?_, fun h => ?_⟩⟩
  . obtain ⟨h1, h2⟩ := S.objs i a o e1 e2 e3
    exact ⟨⟨h1, fun h => hA (h ▸ a0j e1)⟩, h2.keep K (fun ζ ζ e => e) fun ζ e => e⟩
  . refine xEA ((hv x i val e1 e2).1 h) fun v g1 g2 => ?_; exact ⟨v, g1, g2.keep K fun ζ ζ e => e⟩
  . refine a1f ((hv x i val e1 e2).2 h) fun c v g0 g1 g2 => ?_; exact ⟨c, v, g0, g1, g2.keep K fun ζ ζ e => e⟩
theorem Step.shed {exc : Addr -> Prop} {h h' : Heap} (P : Step exc σ ad Λ h σ' ad' Λ' h') {D : Addr} (hD : h.get? D = none) : Step exc σ ad Λ h σ' ad' (fun b => Λ' b /\ b ≠ D) h' :=
  ⟨P.only, P.dom, fun a l => P.lamO a l.1, P.pre, P.liv, P.adO, fun a o e l nl => ⟨P.res a o e l nl, gne hD e⟩⟩
noncomputable def CItemV (W : World0) (k : Nat) (elt : CE) (cond : Option CE) (ρ : List (Option V)) (σ : List O) (one : Bool) (kk : Nat) (x : V) (Y : V -> List O -> Prop) (N : List O -> Prop) : Prop :=
  ∃ ρx, b4p ρ σ one kk x = some ρx /\ match cond with
    | none => TE W k elt ρx σ Y
    | some c => TC W k c ρx σ fun b σ₂ => if b then TE W k elt ρx σ₂ Y else N σ₂
structure CAt (gl : Str -> Option Value) (Φ : Addr -> Prop) (D I : Addr) (Sg : Heap -> Prop) (ys : List Value) (n : Nat) (vals : List V) (Λc : Addr -> Prop) (ad' : List Addr) (h : Heap) : Prop where
  sg : Sg h
  dL : Λc D
  dA : D ∉ ad'
  iL : ¬ Λc I
  iA : I ∉ ad'
  get : h.get? D = some (LO ys n)
  rel : VRels gl h Λc Φ ad' ys vals
inductive CInv (W : World0) (Y : Cx) (Φ : Addr -> Prop) (nms : List Str) (ρ : List (Option V)) (σ₁ : List O) (Λ₁ : Addr -> Prop) (ad₁ : List Addr) (s₁ : Shared) (D I : Addr) (Sg : Nat -> Heap -> Prop) (kk : Nat) (CI : Nat -> List V -> List O -> Prop) (l : List V) (N : Nat) (cur : Shared) : Prop
  | mk (j : Nat) (tt : List (Option V)) (σc : List O) (Λc : Addr -> Prop) (ad' : List Addr) (ys : List Value) (n : Nat) (vals : List V) (h1 : N = l.length + 1 - j) (h2 : j <= l.length) (h3 : tt.length = kk) (h4 : St W.gl Y nms (ρ ++ tt) σc Λc ad' cur)
    (h5 : Step (fun _ => False) σ₁ ad₁ Λ₁ s₁.heap σc ad' Λc cur.heap) (h6 : CAt W.gl Φ D I (Sg j) ys n vals Λc ad' cur.heap) (h13 : ys.length <= j) (h14 : CI j vals σc) : CInv W Y Φ nms ρ σ₁ Λ₁ ad₁ s₁ D I Sg kk CI l N cur
theorem b7q {a b c : Nat} (h1 : a <= b) (h2 : b < c) (h3 : c <= 16777216) : a + 1 <= 16777216 := by exact om19 h1 h2 h3
theorem b2q {a b : Nat} (h : a < b) : b + 1 - (a + 1) < b + 1 - a := by exact om20 h
theorem c8l {a b : Nat} (h : a <= b) : a <= b + 1 := Nat.le_succ_of_le h
theorem b2r {elt iter : CE} {cond : Option CE} {Qf : List V -> List O -> Prop} {el it : Expr} {ifs : List Expr} {pos pos' : Pos} {use : Option (Value -> Sem Unit)} {QQ : Value -> Shared -> Prop}
    (t : wpAny (model W.p W.w) X.A (eval it X.env) (fun xv s₁ => wpAny (model W.p W.w) X.A (pyIter xv) (PostI W X names ρ σ Λ ad s (fun l σ₁ => ∃ CI : Nat -> List V -> List O -> Prop, CI 0 [] σ₁ /\ (∀ j x vals σc, l[j]? = some x -> CI j vals σc -> CItemV W k elt cond ρ σc one kk x (fun v σ₃ => CI (j + 1) (vals ++ [v]) σ₃) (CI (j + 1) vals)) /\ ∀ vals σc, CI l.length vals σc -> Qf vals σc) s₁) (fun ζ ζ => False) s₁) (fun ζ ζ => False) s)
    (T : CmpT names sc csc one kk tg tn) (h2 : isE names sc iter it = true) (h3 : isE (names ++ tn) csc elt el = true) (h4 : isEc (names ++ tn) csc cond ifs = true) (hk : KindsOk X.env sc) (hr : Room X.A k) (hw : W.ok X.hB) (S : St W.gl X names ρ σ Λ ad s)
    (fin : ∀ cur C D Λc ad' ys n vals σc m, St W.gl X names ρ σc Λc ad' cur -> Step (a1c X.env) σ ad Λ s.heap σc ad' Λc cur.heap -> Λc D -> D ∉ ad' -> D ≠ X.env.locals -> s.heap.get? D = none -> cur.heap.get? D = some (LO ys n) -> VRels W.gl cur.heap Λc X.Φ ad' ys vals -> Qf vals σc -> Λc C -> C ∉ ad' -> C ≠ X.env.locals -> C ≠ D -> cur.heap.Ns C m -> s.heap.get? C = none ->
      compPost (model W.p W.w) X.A (fun ζ ζ => False) use QQ (.ref D) C (.ok .next) cur) :
    wpAny (model W.p W.w) X.A (comprehension (.ListComp el [⟨tg, it, ifs, 0⟩] csc pos) csc X.env pos' (newList []) false (eval it X.env) use) QQ (fun ζ ζ => False) s := by
  refine xEAA (b7o (env := X.env) (scope := csc) fun y hy hf => hk.celE y.1 (hk.cel y.1 (T.free y hy hf))) fun cl hclos hcl hcl2 => ?_
  refine wpAny_comprehension_free (g := ⟨tg, it, ifs, 0⟩) (gs := []) rfl (a9s h2 _) hclos T.kind (fun y hy hl => T.lcl y hy hl) (wpAny_mono t (fun xv s₁ h₁ => wpAny_mono h₁ (fun itv s₂ h₂ => ?_) fun ζ ζ f => f) fun ζ ζ f => f)
  obtain ⟨l, σ₁, Λ₁, ad₁, S₁, P₁, ⟨I, fp, P, Sg, rfl, hI, wk, sg0, hfp, hit, hkeep, hos, hgen, hP⟩, hlen, CI, ci0, hitem, q⟩ := h₂
  refine wpAny_newObj_type (wpAny_newFunctionEnv T.nocell (by intro y hy; simp at hy) (fun h₃ hns₃ hsb₃ => ?_) T.kind)
  dsimp only at hns₃ hsb₃ ⊢
  generalize hH2 : s₂.heap.push { cls := .type "list", dict := none, data := .seq ([] : List Value).toArray } = H2 at hns₃ hsb₃ ⊢
  have hC : H2.objs.size = s₂.heap.objs.size + 1 := by erw [← hH2, Heap.size_push]
  generalize hDd : s₂.heap.objs.size = D at hC ⊢
  generalize hCc : H2.objs.size = C at hC hns₃ hsb₃ ⊢
  have hDC : D ≠ C := hC ▸ Nat.ne_of_lt (Nat.lt_succ_self D)
  have old₂ : ∀ b o, s₂.heap.get? b = some o -> b ≠ D /\ b ≠ C := fun b o e => by
    have h1 : b < D := hDd ▸ Heap.lt_size e
    exact ⟨Nat.ne_of_lt h1, Nat.ne_of_lt (hC ▸ Nat.lt_succ_of_lt h1)⟩
  have kp₂ : ∀ b o, s₂.heap.get? b = some o -> h₃.get? b = some o := fun b o e => hsb₃.extBut b o (old₂ b o e).2 (Heap.get?_push_of_some _ (hH2 ▸ Heap.get?_push_of_some _ e))
  have kp : ∀ b o, s₁.heap.get? b = some o -> h₃.get? b = some o := fun b o e => kp₂ b o (hkeep b o e)
  have none₁ : ∀ z, s₂.heap.objs.size <= z -> s₁.heap.get? z = none := fun z hz => by
    cases e : s₁.heap.get? z with
    | none => rfl
    | some o => exact absurd (Nat.lt_of_lt_of_le (Heap.lt_size (hkeep z o e)) hz) (Nat.lt_irrefl _)
  have hD₁ := none₁ D (Nat.le_of_eq hDd)
  have hC₁ := none₁ C (by erw [hDd, hC]; exact Nat.le_succ _)
  have hDo : h₃.get? D = some (LO [] 0) := hsb₃.extBut _ _ hDC (Heap.get?_push_of_some _ (by erw [← hH2, ← hDd]; exact Heap.get?_push_size _ rfl))
  obtain ⟨oI, vI, nI, eI, _⟩ := hit 0 _ sg0
  have hID : I ≠ D := (old₂ I oI eI).1
  have hIC : I ≠ C := (old₂ I oI eI).2
  obtain ⟨oL, eL⟩ : ∃ o, s₁.heap.get? X.env.locals = some o := S₁.ns.elim fun ζ h => h.elim fun o h => h.elim fun ζ h => h.elim fun ζ h => ⟨o, h.1⟩
  let s₄ : Shared := { s₂ with heap := h₃, toks := s₂.toks + ([] : List (Str × Value)).length }
  refine xA (b9v (W := W) (s' := s₄) T hk S₁ hcl hcl2 hD₁ hC₁ hDC kp hos hgen hns₃ ⟨_, hDo⟩) fun S₄ P₄ => ?_
  have hkI := b9u (C := C) (cl := cl) T hk hcl2
  have nad : ∀ {z}, s₁.heap.get? z = none -> z ∉ ad₁ := fun e h => (S₁.adl _ h).elim fun o e' => cGN e e'
  have start : CInv W (cmpX X csc cl C) X.Φ (names ++ tn) ρ σ₁ Λ₁ ad₁ s₁ D I Sg kk CI l (l.length + 1) s₄ :=
    ⟨0, List.replicate kk none, σ₁, _, ad₁, [], 0, [], rfl, Nat.zero_le _, List.length_replicate, S₄, P₄, ⟨wk.frame _ _ _ sg0 fun b ζ o e => kp₂ b o e, .inr (.inr rfl), nad hD₁, fun h => h.elim (fun h => (S₁.lt _ h).elim fun o e => cGN hI e) fun h => h.elim hIC hID, nad hI, hDo, .nil⟩, Nat.le_refl _, ci0⟩
  have hPK : ∀ {σx Λx adx hx}, Step (fun ζ => False) σ₁ ad₁ Λ₁ s₁.heap σx adx Λx hx -> Keep Λ₁ Λx s₁.heap hx := fun P => (P.weak (exc' := a2n X.env) fun ζ f => f.elim).keepS S₁
  have inner : ∀ {j : Nat} {ys : List Value} {n : Nat} {vals : List V} {sa sb : Shared} {ρa : List (Option V)} {σa σb Λa ada adb Λb}, St W.gl (cmpX X csc cl C) (names ++ tn) ρa σa Λa ada sa -> Step (a1c (cmpX X csc cl C).env) σa ada Λa sa.heap σb adb Λb sb.heap ->
      Step (fun ζ => False) σ₁ ad₁ Λ₁ s₁.heap σa ada Λa sa.heap -> CAt W.gl X.Φ D I (Sg j) ys n vals Λa ada sa.heap -> Step (fun ζ => False) σ₁ ad₁ Λ₁ s₁.heap σb adb Λb sb.heap /\ CAt W.gl X.Φ D I (Sg j) ys n vals Λb adb sb.heap := by
    intro j ys n vals sa sb ρa σa σb Λa ada adb Λb Sa Pab P₀ c
    have notLive : ∀ z, z ∉ ada -> ¬ a2w σa ada z := fun z hz ⟨i, o, e1, _⟩ => hz (a0j e1)
    obtain ⟨oI', vI', nI', eI', cI', dI', _⟩ := hit _ _ c.sg
    have P₁b := P₀.past Pab fun a h => (show a = C from h) ▸ hC₁
    refine ⟨P₁b, ?_, Pab.res D _ c.get c.dL (notLive D c.dA), fun h => (Pab.adO D h).elim c.dA fun h => cGN h c.get, fun h => (Pab.lamO I h).elim c.iL fun h => cGN h eI', fun h => (Pab.adO I h).elim c.iA fun h => cGN h eI', Pab.only D _ (notLive D c.dA) hDC c.get, c.rel.keep (Pab.keep Sa) Pab.pre⟩
    refine wk.frame _ _ _ c.sg fun b hb o e => ?_
    have two : ∀ {o'}, sa.heap.get? b = some o' -> sb.heap.get? b = some o' -> sb.heap.get? b = some o := fun g1 g2 => g2.trans (g1.symm.trans e)
    rcases hfp b hb with rfl | st
    . exact two eI' (Pab.only b _ (notLive b c.iA) hIC eI')
    . rcases st with ⟨vs, n, e0⟩ | ⟨nl, o0, hd, e0⟩ | ⟨nl, ne, o0, e0⟩
      . exact two ((hPK P₀).tups _ _ _ e0) ((hPK P₁b).tups _ _ _ e0)
      . exact two ((hPK P₀).objs _ _ nl hd e0) ((hPK P₁b).objs _ _ nl hd e0)
      . exact two (P₀.only _ _ nl (fun f => f) e0) (P₁b.only _ _ nl (fun f => f) e0)
  have eltRun : ∀ {j : Nat} {ys : List Value} {n : Nat} {vals : List V} {sa : Shared} {tt' ρx σa Λa ada}, j < l.length -> ys.length <= j -> ρx = ρ ++ tt' -> tt'.length = kk -> St W.gl (cmpX X csc cl C) (names ++ tn) ρx σa Λa ada sa -> Step (fun ζ => False) σ₁ ad₁ Λ₁ s₁.heap σa ada Λa sa.heap -> CAt W.gl X.Φ D I (Sg (j + 1)) ys n vals Λa ada sa.heap ->
      TE W k elt ρx σa (fun v σ₃ => CI (j + 1) (vals ++ [v]) σ₃) ->
      wpAny (model W.p W.w) X.A (eval el (compEnvC csc cl C X.env)) (fun y s₄ => wpAny (model W.p W.w) X.A (call (.builtin "list.append") [.ref D, y]) (fun ζ s₅ => ∃ m, m < l.length + 1 - j /\ CInv W (cmpX X csc cl C) X.Φ (names ++ tn) ρ σ₁ Λ₁ ad₁ s₁ D I Sg kk CI l m s₅) (fun ζ ζ => False) s₄) (fun ζ ζ => False) sa := by
    intro j ys n vals sa tt' ρx σa Λa ada hlt hyl hρx htt' Sa P₀ c te
    refine wpAny_mono (te (names ++ tn) csc el h3 (cmpX X csc cl C) hkI hr hw Λa ada sa Sa) (fun y s₄ h₄ => ?_) fun ζ ζ f => f
    obtain ⟨val, σ₃, Λ₄, ad₄, S₄', P₄', r₄, hfx⟩ := h₄
    refine xA (inner Sa P₄' P₀ c) fun P₁₄ d => ?_
    refine wpAny_list_append_plain (c3o d.get) (fun h₅ hl₅ hs₅ => ?_) (by erw [List.size_toArray, sizeLine_eq]; exact Nat.le_of_succ_le (b7q hyl hlt hlen))
    obtain ⟨n₅, e₅⟩ := hl₅
    have e₅' : h₅.get? D = some (LO (ys ++ [y]) n₅) := by simpa [LO] using e₅
    refine xA (S₄'.pokeL (t := s₄.toks) d.dL d.dA (show D ≠ C from hDC) (fun vs n e => a4t (e.symm.trans d.get)) (fun v hc => hc.elim fun o h => nomatch (congrArg Obj.data (a0q (h.1.symm.trans d.get))).symm.trans h.2) hs₅.2 ⟨_, e₅'⟩) fun S₅' K₅' => ?_
    refine ⟨l.length + 1 - (j + 1), b2q hlt, j + 1, tt', σ₃, Λ₄, ad₄, ys ++ [y], n₅, vals ++ [val], rfl, hlt, htt', hρx ▸ S₅', P₁₄.poke hD₁ fun b o hb e => (hs₅.2 b hb).trans e, ⟨?_, d.dL, d.dA, d.iL, d.iA, e₅', (d.rel.keep K₅' fun ζ ζ e => e).append (.cons (r₄.keep K₅' fun ζ ζ e => e) .nil)⟩, by erw [List.length_append]; exact Nat.succ_le_succ hyl, hfx⟩
    refine wk.frame _ _ _ d.sg fun b hb o e => (hs₅.2 b fun h => ?_).trans e
    subst h
    rcases hfp b hb with h | st
    . exact hID h.symm
    . rcases st with ⟨vs, n, e0⟩ | ⟨nl, o0, hd, e0⟩ | ⟨nl, ne, o0, e0⟩ <;> exact cGN hD₁ e0
  have loop : ∀ s₅ : Shared, s₅ = s₄ -> codeAny (model W.p W.w) X.A (.compLoop (.ListComp el [⟨tg, it, ifs, 0⟩] csc pos) 0 (.ref I) (.ref D) (compEnvC csc cl C X.env)) (compPost (model W.p W.w) X.A (fun ζ ζ => False) use QQ (.ref D) C) s₅ := by
    rintro s₅ rfl
    refine a5h (fun N cur => CInv W (cmpX X csc cl C) X.Φ (names ++ tn) ρ σ₁ Λ₁ ad₁ s₁ D I Sg kk CI l N cur) ?_ (l.length + 1) start
    rintro N cur ⟨j, tt, σc, Λc, ad', ys, n, vals, rfl, hj, htt, Sc, Pc, c, hyl, hpr⟩
    have hiI := hit j _ c.sg
    have hBI : (cmpX X csc cl C).hB.get? I = none := by
      cases e : X.hB.get? I with
      | none => exact e
      | some o => exact cGN hI (S₁.keep I o e)
    by_cases hlt : j < l.length
    . obtain ⟨x, hx⟩ : ∃ x, l[j]? = some x := ⟨l[j], List.getElem?_eq_getElem hlt⟩
      refine wk.item j cur _ _ hlt c.sg fun v h' tk hPv sg' hk' => ?_
      have hkI' : ∀ b o, b ≠ I -> cur.heap.get? b = some o -> h'.get? b = some o := fun b o hb e => hk' b o (by simpa using hb) e
      refine xA (Sc.poke (t := tk) hiI hBI hIC hkI' c.iL c.iA) fun S₅ K₅ => ?_
      have P₅ := Pc.poke hI hkI'
      have rv : VRel W.gl h' Λc X.Φ ad' v x := hP j v x hPv hx Λc ad' h' (hPK P₅) P₅.pre
      obtain ⟨ρx, hbc, hci⟩ := hitem j x vals σc hx hpr
      refine xAEA (b9w (names := names) S₁.rl htt T.one1 hbc) fun hbt tt' hρx htt' => ?_
      refine a6d (hit _ _ sg') _ _ (S₅.bind hkI hr T.tgt rv hbt fun s₆ S₆ P₆ => ?_)
      have P₆' : Step (a1c (cmpX X csc cl C).env) σc ad' Λc h' σc ad' Λc s₆.heap := P₆.weak fun ζ h => h.elim id fun ⟨y, hy, _⟩ => absurd rfl (T.nocell _ (mem_of_lookup hy))
      refine xA (inner (sa := { cur with heap := h', toks := tk }) S₅ P₆' P₅ ⟨sg', c.dL, c.dA, c.iL, c.iA, hkI' D _ (Ne.symm hID) c.get, c.rel.keep K₅ fun ζ ζ e => e⟩) fun P₁₆ d => ?_
      cases cond with
      | none =>
        obtain ⟨rfl, h4⟩ := b2b h4
        rw [List.forIn_nil]
        exact wpAny_pure (eltRun hlt hyl hρx htt' S₆ P₁₆ d hci)
      | some cc =>
        obtain ⟨cx, rfl, h4⟩ := b9a h4
        rw [List.forIn_cons]
        refine wpAny_bind (wpAny_bind (wpAny_mono (hci (names ++ tn) csc cx h4 (cmpX X csc cl C) hkI hr hw Λc ad' s₆ S₆) (fun b s₇ h₇ => ?_) fun ζ ζ f => f))
        obtain ⟨σ₇, Λ₇, ad₇, S₇, P₇, hb⟩ := h₇
        refine xA (inner S₆ P₇ P₁₆ d) fun P₁₇ g => ?_
        refine wpAny_pure ?_
        show wpAny _ _ (forIn [] b _) _ _ _
        rw [List.forIn_nil]
        refine wpAny_pure ?_
        cases b with
        | true => exact eltRun hlt hyl hρx htt' S₇ P₁₇ g hb
        | false => exact ⟨l.length + 1 - (j + 1), b2q hlt, j + 1, tt', σ₇, Λ₇, ad₇, ys, n, vals, rfl, hlt, htt', hρx ▸ S₇, P₁₇, g, c8l hyl, hb⟩
    . obtain rfl : j = l.length := Nat.le_antisymm hj (Nat.le_of_not_lt hlt)
      refine wk.done cur _ _ c.sg fun h' tk hk' => ?_
      have hkI' : ∀ b o, b ≠ I -> cur.heap.get? b = some o -> h'.get? b = some o := fun b o hb e => hk' b o (by simpa using hb) e
      refine xA (Sc.poke (t := tk) hiI hBI hIC hkI' c.iL c.iA) fun S₅ K₅ => ?_
      have P₅ := Pc.poke hI hkI'
      refine xEEA S₅.vars fun mC cmC hnC ζ => ?_
      exact fin { cur with heap := h', toks := tk } C D Λc ad' ys n vals σc mC (St.outerV (s' := { cur with heap := h', toks := tk }) S₁ S₅ rfl rfl rfl rfl P₅) (P₁.trans (P₅.weak fun ζ f => f.elim)) c.dL c.dA (Ne.symm (gne hD₁ eL)) (a2j P₁.dom hD₁) (hkI' D _ (Ne.symm hID) c.get) (c.rel.keep K₅ fun ζ ζ e => e) (q vals σc hpr) S₅.locL S₅.locA (Ne.symm (gne hC₁ eL)) (Ne.symm hDC) hnC (a2j P₁.dom hC₁)
  exact codeAny_compStart_list (loop _ rfl) (wk.self 0 _ _ _ (wk.frame _ _ _ sg0 fun b ζ o e => kp₂ b o e) (loop _ rfl))
theorem b9x {elt iter : CE} {cond : Option CE} {Qf : List D -> List O -> Prop} {el it : Expr} {ifs : List Expr} {pos pos' : Pos} {use : Option (Value -> Sem Unit)} {QQ : Value -> Shared -> Prop}
    (t : wpAny (model W.p W.w) X.A (eval it X.env) (fun xv s₁ => wpAny (model W.p W.w) X.A (pyIter xv) (PostI W X names ρ σ Λ ad s (fun l σ₁ => ∃ Rel : V -> Option D -> Prop, (∀ x ∈ l, b0u W k elt cond ρ σ₁ one kk x (Rel x)) /\ ∀ zs, PySem.Paired Rel l zs -> Qf (zs.filterMap id) σ₁) s₁) (fun ζ ζ => False) s₁) (fun ζ ζ => False) s)
    (T : CmpT names sc csc one kk tg tn) (h2 : isE names sc iter it = true) (h3 : isE (names ++ tn) csc elt el = true) (h4 : isEc (names ++ tn) csc cond ifs = true) (hk : KindsOk X.env sc) (hr : Room X.A k) (hw : W.ok X.hB) (S : St W.gl X names ρ σ Λ ad s)
    (fin : ∀ cur C D Λf ad' ys σ₁ m, St W.gl X names ρ σ₁ Λf ad' cur -> Step (a1c X.env) σ ad Λ s.heap σ₁ ad' Λf cur.heap -> DRel W.gl cur.heap (Un Λf X.Φ) (.ref D) (.lst ys) -> Qf ys σ₁ -> Λf C -> C ∉ ad' -> C ≠ X.env.locals -> cur.heap.Ns C m -> s.heap.get? C = none ->
      compPost (model W.p W.w) X.A (fun ζ ζ => False) use QQ (.ref D) C (.ok .next) cur) :
    wpAny (model W.p W.w) X.A (comprehension (.ListComp el [⟨tg, it, ifs, 0⟩] csc pos) csc X.env pos' (newList []) false (eval it X.env) use) QQ (fun ζ ζ => False) s := by
  refine b2r (Qf := fun vals σc => ∃ ys, vals = ys.map V.d /\ Qf ys σc) (wpAny_mono t (fun xv s₁ h₁ => wpAny_mono h₁ (fun itv s₂ h₂ => ?_) fun ζ ζ f => f) fun ζ ζ f => f) T h2 h3 h4 hk hr hw S ?_
  . obtain ⟨l, σ₁, Λ₁, ad₁, S₁, P₁, wk, hlen, Rel, hitem, q⟩ := h₂
    refine ⟨l, σ₁, Λ₁, ad₁, S₁, P₁, wk, hlen, fun j vals σc => σc = σ₁ /\ ∃ zs, PySem.Paired Rel (l.take j) zs /\ vals = (zs.filterMap id).map V.d, ⟨rfl, [], .nil, rfl⟩, fun j x vals σc hx h => ?_, fun vals σc h => ?_⟩
    . obtain ⟨rfl, zs, hp, rfl⟩ := h
      have take1 : ∀ {y : Option D}, Rel x y -> PySem.Paired Rel (l.take (j + 1)) (zs ++ [y]) := fun {y} hy => by
        erw [List.take_add_one, hx]; exact hp.snoc hy
      have some1 : ∀ {z : D}, Rel x (some z) -> ∃ zs', PySem.Paired Rel (l.take (j + 1)) zs' /\ (zs.filterMap id).map V.d ++ [V.d z] = (zs'.filterMap id).map V.d := fun {z} hz => ⟨zs ++ [some z], take1 hz, by erw [List.filterMap_append, List.map_append]; rfl⟩
      have none1 : Rel x none -> ∃ zs', PySem.Paired Rel (l.take (j + 1)) zs' /\ (zs.filterMap id).map V.d = (zs'.filterMap id).map V.d := fun hz => ⟨zs ++ [none], take1 hz, by erw [List.filterMap_append]; exact (congrArg _ (List.append_nil _)).symm⟩
      obtain ⟨ρx, hb, hi⟩ := hitem x (List.mem_of_getElem? hx)
      refine ⟨ρx, hb, ?_⟩
      cases cond with
      | none => exact TE.mono hi fun v σ' h => by obtain ⟨rfl, z, rfl, hz⟩ := h; exact ⟨rfl, some1 hz⟩
      | some c =>
        refine TC.mono hi fun b σ' h => ?_
        obtain ⟨rfl, h⟩ := h
        cases b with
        | true => exact TE.mono h fun v σ' h => by obtain ⟨rfl, z, rfl, hz⟩ := h; exact ⟨rfl, some1 hz⟩
        | false => exact ⟨rfl, none1 h⟩
    . obtain ⟨rfl, zs, hp, rfl⟩ := h
      rw [List.take_length] at hp
      exact ⟨_, rfl, q zs hp⟩
  . intro cur C D Λc ad' ys n vals σc m So Po hΛ hA hL hn hD r q' cΛ cA cL cD cN cn
    obtain ⟨zs, rfl, q⟩ := q'
    refine fin cur C D _ ad' zs σc m (So.shed hA hL) (Po.shed hn) (.lst hD ?_ (r.toD.keep (.weak fun b h => h.elim (fun h => .inl h.1) .inr))) q ⟨cΛ, cD⟩ cA cL cN cn
    rintro (h | h)
    . exact h.2 rfl
    . exact (S.phi D h).elim fun o e => cGN hn (S.keep _ _ e)
theorem b6i {elt iter : CE} {cond : Option CE} {Qf : List D -> List O -> Prop} {el it : Expr} {ifs : List Expr} {pos pos' : Pos} {use : Option (Value -> Sem Unit)} {QQ : Value -> Shared -> Prop}
    (t : TI W k iter ρ σ fun l σ₁ => ∃ Rel : V -> Option D -> Prop, (∀ x ∈ l, b0u W k elt cond ρ σ₁ one kk x (Rel x)) /\ ∀ zs, PySem.Paired Rel l zs -> Qf (zs.filterMap id) σ₁)
    (T : CmpT names sc csc one kk tg tn) (h2 : isE names sc iter it = true) (h3 : isE (names ++ tn) csc elt el = true) (h4 : isEc (names ++ tn) csc cond ifs = true) (hk : KindsOk X.env sc) (hr : Room X.A k) (hw : W.ok X.hB) (S : St W.gl X names ρ σ Λ ad s)
    (fin : ∀ cur C D Λf ad' ys σ₁ m, St W.gl X names ρ σ₁ Λf ad' cur -> Step (a1c X.env) σ ad Λ s.heap σ₁ ad' Λf cur.heap -> DRel W.gl cur.heap (Un Λf X.Φ) (.ref D) (.lst ys) -> Qf ys σ₁ -> Λf C -> C ∉ ad' -> C ≠ X.env.locals -> cur.heap.Ns C m -> s.heap.get? C = none ->
      compPost (model W.p W.w) X.A (fun ζ ζ => False) use QQ (.ref D) C (.ok .next) cur) :
    wpAny (model W.p W.w) X.A (comprehension (.ListComp el [⟨tg, it, ifs, 0⟩] csc pos) csc X.env pos' (newList []) false (eval it X.env) use) QQ (fun ζ ζ => False) s :=
  b9x (iter := iter) (t names sc it h2 X hk hr hw Λ ad s S) T h2 h3 h4 hk hr hw S fin
end
end Mine
end
section
open PySem PyProof.Rows PySem.SeqAt
namespace Mine
section
variable {W : World0} {k : Nat} {A : Around} {s s' s'' : Shared} {F : Addr -> Prop} {sc csc : Scope}
variable {gl : Str -> Option Value} {X : Cx} {names : List Str} {ρ ρ' : List (Option V)} {σ σ' σ'' : List O} {Λ Λ' Λ'' : Addr -> Prop} {ad ad' ad'' : List Addr}
theorem c4f {h : Heap} {z : Addr} {m : Str -> Option Value} (n : h.Ns z m) (vs : List Value) (k : Nat) : h.get? z ≠ some (TO vs k) := b2f n
theorem a6u {h : Heap} {z : Addr} {m : Str -> Option Value} (n : h.Ns z m) (v : Option Value) : ¬ h.IsCell z v := fun c => a3l c n rfl
theorem St.dropC {C : Addr} {m : Str -> Option Value} (S : St gl X names ρ σ Λ ad s) (hΛ : Λ C) (hA : C ∉ ad) (hL : C ≠ X.env.locals) (hn : s.heap.Ns C m) {h' : Heap} (hs : Heap.SameBut C s.heap h') {h₀ : Heap} {σ₀ : List O} {ad₀ : List Addr} {Λ₀ : Addr -> Prop} {exc : Addr -> Prop}
    (P : Step exc σ₀ ad₀ Λ₀ h₀ σ ad Λ s.heap) (hC : h₀.get? C = none) :
    St gl X names ρ σ (fun b => Λ b /\ b ≠ C) ad { s with heap := h' } /\ Keep Λ (fun b => Λ b /\ b ≠ C) s.heap h' /\ Step exc σ₀ ad₀ Λ₀ h₀ σ ad (fun b => Λ b /\ b ≠ C) h' := by
  obtain ⟨S', K⟩ := S.drop (t := s.toks) hΛ hA hL (c4f hn) (a6u hn) hs.2
  refine ⟨S', K, fun a o nl ne e => ?_, fun a o e => ?_, fun a l => P.lamO a l.1, P.pre, P.liv, P.adO, fun a o e l nl => ⟨P.res a o e l nl, fun h => by subst h; exact dGN hC e⟩⟩
  . rw [hs.2 a fun h => by subst h; exact dGN hC e]; exact P.only a o nl ne e
  . obtain ⟨o', e'⟩ := P.dom a o e
    exact ⟨o', by erw [hs.2 a fun h => by subst h; exact dGN hC e]; exact e'⟩
theorem TE.compR {elt iter : CE} {kk : Nat} {one : Bool} {cond : Option CE} {Q : V -> List O -> Prop}
    (t : TI W k iter ρ σ fun l σ₁ => ∃ Rel : V -> Option D -> Prop, (∀ x ∈ l, b0u W k elt cond ρ σ₁ one kk x (Rel x)) /\ ∀ zs, PySem.Paired Rel l zs -> Q (.d (.lst (zs.filterMap id))) σ₁) : TE W k (.comp elt kk one iter cond) ρ σ Q := fun names sc E he X hk hr hw Λ ad s S => by
  obtain ⟨el, tg, it, ifs, csc, pos, tn, rfl, T, h2, h3, h4⟩ := a6t he
  erw [eval_ListComp]
  show wpAny _ _ (comprehension (.ListComp el [⟨tg, it, ifs, 0⟩] csc pos) csc X.env it.pos (newList []) false (eval it X.env) Option.none) _ _ _
  refine b6i (Qf := fun ys σ₁ => Q (.d (.lst ys)) σ₁) t T h2 h3 h4 hk hr hw S fun cur C D Λf ad' ys σ₁ m So Po dr q hΛ hA hL hn hC => ?_
  refine ⟨m, hn, fun h' hs' => ?_⟩
  refine xAA (So.dropC hΛ hA hL hn hs' Po hC) fun S' K P' => ?_
  exact ⟨_, _, _, _, S', P', .d (dr.keep K.un), q⟩
theorem a9v {f : V -> Option D} {l : List V} {zs : List (Option D)} (h : PySem.Paired (fun x y => y = f x) l zs) : zs.filterMap id = l.filterMap f := by
  induction h with
  | nil => rfl
  | cons h t ih => erw [List.filterMap_cons, List.filterMap_cons, ih, h]; rfl
theorem TI.mono {e : CE} {Q Q' : List V -> List O -> Prop} (t : TI W k e ρ σ Q) (h : ∀ l σ, Q l σ -> Q' l σ) : TI W k e ρ σ Q' := fun names sc E he X hk hr hw Λ ad s S =>
  wpAny_mono (t names sc E he X hk hr hw Λ ad s S) (fun v s₁ h₁ => wpAny_mono h₁ (fun it s₂ ⟨l, a, b, c, d, e, f, g, i⟩ => ⟨l, a, b, c, d, e, f, g, h _ _ i⟩) fun ζ ζ f => f) fun ζ ζ f => f
theorem TE.comp {elt iter : CE} {kk : Nat} {one : Bool} {cond : Option CE} {Q : V -> List O -> Prop}
    (t : TI W k iter ρ σ fun l σ₁ => ∃ f : V -> Option D, (∀ x ∈ l, b0u W k elt cond ρ σ₁ one kk x fun y => y = f x) /\ Q (.d (.lst (l.filterMap f))) σ₁) : TE W k (.comp elt kk one iter cond) ρ σ Q :=
  TE.compR (t.mono fun l σ₁ ⟨f, h1, h2⟩ => ⟨fun x y => y = f x, h1, fun zs hz => by erw [a9v hz]; exact h2⟩)
theorem TS1.asgCR {i : Nat} {elt iter : CE} {kk : Nat} {one : Bool} {cond : Option CE} {Q : Out -> List (Option V) -> List O -> Prop}
    (t : TI W k iter ρ σ fun l σ₁ => ∃ Rel : V -> Option D -> Prop, (∀ x ∈ l, b0u W k elt cond ρ σ₁ one kk x (Rel x)) /\ ∀ zs, PySem.Paired Rel l zs -> Q .next (ρ.set i (some (.d (.lst (zs.filterMap id))))) σ₁) : TS1 W k (.asg i (.comp elt kk one iter cond)) ρ σ Q := fun names sc S he X hk hr hw Λ ad s St' => by
  replace he := a8f he; obtain ⟨x, px, v, pos, rfl, he⟩ := he
  . skip
    simp only [Bool.and_eq_true] at he
    have hv := he.2
    obtain ⟨el, tg, it, ifs, csc, cpos, tn, rfl, T, h2, h3, h4⟩ := a6t hv
    obtain ⟨b, hb⟩ : ∃ b : Bool, swapsWith (.ListComp el [⟨tg, it, ifs, 0⟩] csc cpos) (some (.Name x px)) pos.line X.env = pure b /\ (b = true -> X.env.kindOf x = some .local) := ⟨_, rfl, fun h => by
      simp only [Bool.and_eq_true, beq_iff_eq] at h; exact h.1.1.2⟩
    cases b with
    | false =>
      refine wpAny_Assign_Name (wpAny_mono (TE.compR (Q := fun v σ' => Q .next (ρ.set i (some v)) σ') t names sc _ hv X hk hr hw Λ ad s St') (fun v s₁ h₁ => ?_) fun ζ ζ f => f) hb.1
      obtain ⟨val, σ₁, Λ₁, ad₁, S₁, P₁, r, q⟩ := h₁
      exact S₁.store hk he.1 r fun s₂ S₂ P₂ => ⟨.next, _, _, _, _, S₂, P₁.own.trans P₂.ownS, .next, q⟩
    | true =>
      erw [exec_Assign_Name_used _ _ _ _ hb.1]
      refine wpAny_bind (wpAny_standAt (wpAny_bind ?_))
      show wpAny _ _ (do let _ ← comprehension (.ListComp el [⟨tg, it, ifs, 0⟩] csc cpos) csc X.env it.pos (newList []) false (eval it X.env) (some (assign (.Name x px) X.env))) _ _ s
      refine wpAny_bind (wpAny_mono (b6i (Qf := fun ys σ₁ => Q .next (ρ.set i (some (.d (.lst ys)))) σ₁) (QQ := fun ζ s' => PostS W.gl X names σ Λ ad s Q .next s') t T h2 h3 h4 hk hr hw St' fun cur C D Λf ad' ys σ₁ m So Po dr q hΛ hA hL hn hC => ?_) (fun ζ s' hq => wpAny_pure (wpAny_pure hq)) fun ζ ζ f => f)
      show wpAny _ _ (assign (.Name x px) X.env (.ref D)) _ _ _
      refine wpAny_assign_Name (So.store hk he.1 (.d dr) fun s₂ S₂ P₂ => ?_)
      have hnl : ¬ a2w σ₁ ad' C := fun ⟨i, o, e1, _⟩ => hA (a0j e1)
      have hne : ¬ a1u sc X.env C := fun h => by
        rcases h with h | ⟨y, _, h⟩
        . exact hL h
        . refine a1f So.vars fun m' cm ζ hc ζ => ?_
          exact a6u hn _ (hc y C h)
      have hn₂ : s₂.heap.Ns C m := by
        obtain ⟨o, es, ep, e, r⟩ := hn
        exact ⟨o, es, ep, P₂.only C o hnl hne e, r⟩
      refine ⟨m, hn₂, fun h' hs' => ?_⟩
      refine xAA (S₂.dropC hΛ hA hL hn₂ hs' (Po.own.trans P₂.ownS) hC) fun S' K P' => ?_
      exact ⟨.next, _, _, _, _, S', P', .next, q⟩
theorem TS1.asgC {i : Nat} {elt iter : CE} {kk : Nat} {one : Bool} {cond : Option CE} {Q : Out -> List (Option V) -> List O -> Prop}
    (t : TI W k iter ρ σ fun l σ₁ => ∃ f : V -> Option D, (∀ x ∈ l, b0u W k elt cond ρ σ₁ one kk x fun y => y = f x) /\ Q .next (ρ.set i (some (.d (.lst (l.filterMap f))))) σ₁) : TS1 W k (.asg i (.comp elt kk one iter cond)) ρ σ Q :=
  TS1.asgCR (t.mono fun l σ₁ ⟨f, h1, h2⟩ => ⟨fun x y => y = f x, h1, fun zs hz => by erw [a9v hz]; exact h2⟩)
inductive PutV : List O -> V -> V -> V -> List O -> Prop
  | lst {σ : List O} {n : Nat} {w : V} {l : List D} {i : Int} {x : D} : σ[n]? = some (.lst l) -> a0i σ w = some (.int i) -> 0 <= i -> i < l.length -> l.length <= 16777216 -> PutV σ (.r n) w (.d x) (σ.set n (.lst (l.set i.toNat x)))
  | dI {σ : List O} {n : Nat} {w : V} {l : List (Int × D)} {i : Int} {x : D} : σ[n]? = some (.dI l) -> a0i σ w = some (.int i) -> l.length <= 16777216 -> PutV σ (.r n) w (.d x) (σ.set n (.dI (put l i x)))
  | dT {σ : List O} {n : Nat} {w : V} {l : List (List Int × D)} {i : List Int} {x : D} : σ[n]? = some (.dT l) -> a0i σ w = some (.tup (i.map .int)) -> l.length <= 16777216 -> PutV σ (.r n) w (.d x) (σ.set n (.dT (put l i x)))
theorem DRels.set {h : Heap} {G : Addr -> Prop} {v : Value} {x : D} : ∀ {vs : List Value} {l : List D} {i : Nat}, DRels gl h G vs l -> DRel gl h G v x -> DRels gl h G (vs.set i v) (l.set i x)
  | _, _, _, .nil, _ => by simpa using .nil
  | _, _, 0, .cons a b, r => .cons r b
  | _, _, i + 1, .cons a b, r => .cons a (b.set r)
theorem b0w {l : Addr} {vs : List Value} {n : Nat} {i : Int} {t : Tok} {v : Value} {Q : Unit -> Shared -> Prop} {E : Value -> Shared -> Prop} (ho : s.heap.get? l = some (LO vs n))
    (h0 : 0 <= i) (hfit : i < 2 ^ 63) (hn : i < vs.length) (hQ : ∀ h' n', h'.get? l = some (LO (vs.set i.toNat v) n') -> Heap.SameBut l s.heap h' -> Q () { s with heap := h' }) :
    wpAny (model W.p W.w) A (setItem (.ref l) (.int i t) v) Q E s := by
  have hl := a0c ho
  unfold setItem
  try with_reducible refine wpAny_holding ?_
  first | refine wpAny_bind (wpAny_pure ?_) | skip
  refine wpAny_bind (wpAny_sequenceKey hl.typeIs (by decide) ?_)
  refine wpAny_bind (wpAny_callSpecial?_slot (name := Str.ofString "__setitem__") hl.typeIs slot_list_setitem
    (wpAny_call_entry slot_list_setitem hl.typeIs entry_list_setitem ?_ (args_list_setitem _ _ _)))
  show wpAny _ _ (Builtin.List.listSubscript? (.int i t) >>= _) _ _ s
  refine wpAny_bind (wpAny_listSubscript_int (fitsIndex_of h0 hfit) ?_)
  clear hfit
  obtain ⟨j, rfl⟩ := Int.eq_ofNat_of_zero_le h0
  have hj : j < vs.toArray.size := by simp only [List.size_toArray]; exact om21 hn
  have hx' : vs.toArray[j]? = some vs.toArray[j] := Array.getElem?_eq_getElem hj
  show wpAny _ _ ((seqItemAt l j >>= fun r => pure (r.map (j, ·))) >>= _) _ _ s
  refine wpAny_bind (wpAny_bind (wpAny_seqItemAt ho rfl (wpAny_pure ?_)))
  erw [hx']
  show wpAny _ _ (setSeqItemAt l j v >>= _) _ _ s
  refine xE (a6a ho (·.setIfInBounds j v)) fun n' hfin => ?_
  have hfin' : (s.heap.update l (Obj.mapSeq (·.setIfInBounds j v))).get? l = some (LO (vs.set j v) n') := by simpa using hfin
  refine wpAny_bind (wpAny_setSeqItemAt ho rfl ?_)
  first
    | exact wpAny_bind (wpAny_pure (wpAny_pure ⟨.none, rfl, wpAny_pure (hQ _ _ hfin' (Heap.SameBut.update ..))⟩))
    | exact wpAny_pure ⟨.none, rfl, wpAny_pure (hQ _ _ hfin' (Heap.SameBut.update ..))⟩
theorem c8m (S : St W.gl X names ρ σ Λ ad s) (hr : Room X.A k) {va vb vc : V} {v u y : Value} (c : PutV σ va vb vc σ') (rv : VRel W.gl s.heap Λ X.Φ ad v va) (ru : VRel W.gl s.heap Λ X.Φ ad u vb) (ry : VRel W.gl s.heap Λ X.Φ ad y vc)
    {QQ : Unit -> Shared -> Prop} {E : Value -> Shared -> Prop} (q : ∀ s', St W.gl X names ρ σ' Λ ad s' -> Step (a1c X.env) σ ad Λ s.heap σ' ad Λ s'.heap -> QQ () s') : wpAny (model W.p W.w) X.A (setItem v u y) QQ E s := by
  cases c with
  | lst e0 e1 h0 h1 hz =>
    have d2 := a0r S ru e1; cases d2
    cases rv with
    | r e =>
      obtain ⟨_, vs, m, g1, g2⟩ := S.objs _ _ _ e e0 (by intro h; cases h)
      refine b0w g1 h0 (by omega) (by erw [g2.length]; exact h1) fun h' n' hl' hs' => ?_
      obtain ⟨S', P'⟩ := S.relist (t := s.toks) (n := m) (vs := vs) e e0 hs'.2 hl' (g2.set ry.dInv)
      exact q _ S' P'
  | dI e0 e1 hz =>
    have d2 := a0r S ru e1; cases d2
    cases rv with
    | r e =>
      obtain ⟨kvs, hm, hl, fin⟩ := S.putI (key := _) (t := 0) e e0 hz ry.dInv
      exact wpAny_setItem_pairs (knd := intKind W.p W.w) (a9o _ _) hm (fun h' hm' hs' => q _ (fin h' _ hm' hs').1 (fin h' 0 hm' hs').2) hl
  | dT e0 e1 hz =>
    have d2 := a0r S ru e1
    cases d2 with
    | tup t1 t2 => cases rv with
      | r e =>
        refine xEAA (S.putT e e0 hz t1 (a2x t2) ry.dInv) fun xs hm hl fin => ?_
        exact wpAny_setItem_heap (knd := tupleKind (intKind W.p W.w)) hr.in1 (a5p t1 (a2x t2)) hm (fun h' hm' hs' => q _ (fin h' _ hm' hs').1 (fin h' 0 hm' hs').2) hl
theorem TS1.asgS {a i e : CE} {Q : Out -> List (Option V) -> List O -> Prop} (t : TE W k e ρ σ fun v σ₁ => TE W k a ρ σ₁ fun o σ₂ => TE W k i ρ σ₂ fun w σ₃ => ∃ σ₄, PutV σ₃ o w v σ₄ /\ Q .next ρ σ₄) (hn : a1v e = true := by rfl) : TS1 W k (.asgS a i e) ρ σ Q := fun names sc S he X hk hr hw Λ ad s St' => by
  replace he := c3j he; obtain ⟨oe, ke, pos', ve, pos, rfl, he⟩ := he
  . skip
    simp only [Bool.and_eq_true] at he
    refine wpAny_Assign_Subscript (wpAny_mono (t names sc _ he.2 X hk hr hw Λ ad s St') (fun v s₁ h₁ => ?_) fun ζ ζ f => f) (a1p he.2 hn _ _ _)
    obtain ⟨val, σ₁, Λ₁, ad₁, S₁, P₁, r₁, t₁⟩ := h₁
    refine wpAny_mono (t₁ names sc _ he.1.1 X hk hr hw Λ₁ ad₁ s₁ S₁) (fun o s₂ h₂ => ?_) fun ζ ζ f => f
    obtain ⟨vo, σ₂, Λ₂, ad₂, S₂, P₂, r₂, t₂⟩ := h₂
    refine wpAny_mono (t₂ names sc _ he.1.2 X hk hr hw Λ₂ ad₂ s₂ S₂) (fun w s₃ h₃ => ?_) fun ζ ζ f => f
    obtain ⟨vw, σ₃, Λ₃, ad₃, S₃, P₃, r₃, σ₄, c, q⟩ := h₃
    exact c8m S₃ hr c (r₂.step S₂ P₃) r₃ ((r₁.step S₁ P₂).step S₂ P₃) fun s₄ S₄ P₄ => ⟨.next, _, _, _, _, S₄, (((P₁.trans P₂).trans P₃).trans P₄).own, .next, q⟩
end
end Mine
end
section
open PySem PyProof.Rows PySem.SeqAt
namespace Mine
section
variable {W : World0} {k : Nat} {A : Around} {s s' s'' : Shared} {F : Addr -> Prop} {sc : Scope}
variable {gl : Str -> Option Value} {X : Cx} {names : List Str} {ρ ρ' : List (Option V)} {σ σ' σ'' : List O} {Λ Λ' : Addr -> Prop} {ad ad' : List Addr}
end
end Mine
end
section
open PySem PyProof.Rows PySem.SeqAt
namespace Mine
section
variable {W : World0} {k : Nat} {A : Around} {s s' s'' : Shared} {F : Addr -> Prop} {sc : Scope}
variable {gl : Str -> Option Value} {X : Cx} {names : List Str} {ρ ρ' : List (Option V)} {σ σ' σ'' : List O} {Λ Λ' : Addr -> Prop} {ad ad' : List Addr}
set_option tactic.hygienic true in
theorem TE.appendV {i : Nat} {e : CE} {j : Nat} {Q : V -> List O -> Prop} (hx : ρ[i]? = some (some (.r j))) (h0 : ∃ l, σ[j]? = some (.lstV l)) (t : TE W k e ρ σ fun v σ' => ∃ l, σ'[j]? = some (.lstV l) /\ l.length <= 16777216 /\ Q (.d .none) (σ'.set j (.lstV (l ++ [v])))) :
    TE W k (.meth (.var i) "append" [e]) ρ σ Q := fun names sc E he X hk hr hw Λ ad s S => by
  replace he := b0l he; obtain ⟨o, n, ap, args, pos, rfl, he⟩ := he
  simp only [Bool.and_eq_true, beq_iff_eq] at he
  obtain ⟨⟨⟨⟨hv, rfl⟩, hes⟩, _⟩, hl⟩ := he
  have hv' := hv
  replace hv' := a8e hv'; obtain ⟨x, px, rfl, hv'⟩ := hv'
  replace hes := a0g hes; obtain ⟨x1, xs, rfl, hes⟩ := hes
  simp only [Bool.and_eq_true] at hes
  obtain ⟨he1, hnil⟩ := hes
  replace hnil := a0p hnil; obtain ⟨rfl, hnil⟩ := hnil
  refine Call_method1 (a8k _ _ _ _ _) (a0m he1 _ _) (by simpa using hl) ?_
  refine wpAny_mono (TE.var (W := W) (k := k) (Q := fun v σ' => v = .r j /\ σ' = σ) hx ⟨rfl, rfl⟩ names sc _ hv X hk hr hw Λ ad s S) (fun v s₁ h₁ => ?_) fun ζ ζ f => f
  obtain ⟨val, σ₁, Λ₁, ad₁, S₁, P₁, r₁, rfl, rfl⟩ := h₁
  obtain ⟨l0, h0⟩ := h0
  cases r₁ with
  | r ea =>
    rename_i a
    obtain ⟨_, vs, n, h1, h2⟩ := S₁.objs j a _ ea h0 (by intro h; cases h)
    refine ⟨"list", _, PySem.F.plainAttrs_list, PySem.F.slot_list_append, PySem.F.type_list_append, ⟨_, h1, rfl⟩, fun b hb => by cases hb; exact ⟨_, h1, rfl⟩, ?_⟩
    refine PySem.P.append_list (wpAny_mono (t names sc x1 he1 X hk hr hw Λ₁ ad₁ s₁ S₁) (fun y s₂ h₂ => ?_) fun ζ ζ f => f)
    obtain ⟨val, σ₂, Λ₂, ad₂, S₂, P₂, r₂, l, eo, hlen, q⟩ := h₂
    have ea' := P₂.pre _ _ ea
    obtain ⟨_, vs', n', h1', h2'⟩ := S₂.objs j a _ ea' eo (by intro h; cases h)
    refine ⟨vs'.toArray, n', by simp only [List.size_toArray, h2'.length]; exact hlen, h1', ?_⟩
    obtain ⟨n'', e''⟩ := a6a h1' fun xs => xs.push y
    have ht : (vs'.toArray.push y).toList = vs' ++ [y] := by simp
    rw [ht] at e''
    obtain ⟨S₃, P₃⟩ := S₂.update (s' := { s₂ with heap := s₂.heap.update a (Obj.mapSeq fun xs => xs.push y) }) (o' := .lstV (l ++ [val])) ea' eo (by intro h; cases h) (by intro h; cases h) (fun b hb => Heap.get?_update_other _ _ (Ne.symm hb)) rfl rfl ⟨_, e''⟩
      fun K => ⟨_, _, e'', (h2'.append (.cons r₂ .nil)).keep K fun ζ ζ e => e⟩
    exact ⟨_, _, _, _, S₃, P₁.trans (P₂.trans P₃), .d .none, q⟩
end
end Mine
end
section
open PySem PyProof.Rows PySem.SeqAt
namespace Mine
section
variable {W : World0} {k : Nat} {A : Around} {s s' s'' : Shared} {F : Addr -> Prop} {sc csc : Scope}
variable {gl : Str -> Option Value} {X Y : Cx} {names : List Str} {ρ ρ' : List (Option V)} {σ σ' σ'' : List O} {Λ Λ' Λ'' : Addr -> Prop} {ad ad' ad'' : List Addr}
variable {one : Bool} {kk : Nat} {tg : Expr} {tn : List Str} {cl : List (Str × Addr)} {C : Addr}
theorem St.adopt (S : St gl X names ρ σ Λ ad s) {D : Addr} {ys : List Value} {n : Nat} {vals : List V} (hΛ : Λ D) (hA : D ∉ ad) (hL : D ≠ X.env.locals) (h : s.heap.get? D = some (LO ys n)) (r : VRels gl s.heap Λ X.Φ ad ys vals) : St gl X names ρ (σ ++ [.lstV vals]) Λ (ad ++ [D]) s := by
  have pre : ∀ (i : Nat) (b : Addr), ad[i]? = some b -> (ad ++ [D])[i]? = some b := fun i b e => b0o e
  refine ⟨S.keep, S.os, S.gens, S.new, S.lt, S.phi, ?_, by erw [List.length_append, List.length_append, S.len]; rfl, fun b hb => ?_, fun i b o e1 e2 e3 => ?_, S.locL, fun hm => ?_, S.cellN, S.rl, ?_⟩
  . rw [List.nodup_append]
    refine ⟨S.nd, by simp, fun x hx y hy => ?_⟩
    erw [List.mem_singleton.mp hy]
    exact fun h => hA (h ▸ hx)
  . rcases List.mem_append.mp hb with hb | hb
    . exact S.adl b hb
    . erw [List.mem_singleton.mp hb]; exact ⟨_, h⟩
  . rcases get_snoc e1 with e1' | ⟨hi, hb⟩
    . have hlt : i < σ.length := by erw [← S.len]; exact (List.getElem?_eq_some_iff.mp e1').1
      rw [List.getElem?_append_left hlt] at e2
      obtain ⟨h1, h2⟩ := S.objs i b o e1' e2 e3
      exact ⟨h1, h2.keep .refl pre fun ζ e => e⟩
    . rw [hi, S.len, List.getElem?_append_right (Nat.le_refl _), Nat.sub_self] at e2
      cases e2
      erw [hb]
      exact ⟨hΛ, ys, n, h, r.keep .refl pre⟩
  . rcases List.mem_append.mp hm with hm | hm
    . exact S.locA hm
    . exact hL (List.mem_singleton.mp hm).symm
  . refine a1f S.vars fun m cm n' c v => ?_
    refine ⟨m, cm, n', c, fun x i val e1 e2 => ⟨fun hk => ?_, fun hk => ?_⟩⟩
    . refine xEA ((v x i val e1 e2).1 hk) fun v' h1 h2 => ?_
      exact ⟨v', h1, h2.keep .refl pre⟩
    . refine a1f ((v x i val e1 e2).2 hk) fun c' v' h1 h2 h3 => ?_
      exact ⟨c', v', h1, h2, h3.keep .refl pre⟩
theorem Step.adopt {exc : Addr -> Prop} {h h' : Heap} {D : Addr} {o : O} (hl : ad'.length = σ'.length) (P : Step exc σ ad Λ h σ' ad' Λ' h') (hD : h.get? D = none) : Step exc σ ad Λ h (σ' ++ [o]) (ad' ++ [D]) Λ' h' := by
  refine ⟨P.only, P.dom, P.lamO, fun i a e => b0o (P.pre i a e), fun a l => ?_, fun a l => ?_, P.res⟩
  . obtain ⟨i, o', e1, e2, e3⟩ := l
    rcases get_snoc e1 with e1' | ⟨_, hb⟩
    . have hlt : i < σ'.length := by erw [← hl]; exact (List.getElem?_eq_some_iff.mp e1').1
      rw [List.getElem?_append_left hlt] at e2
      exact P.liv a ⟨i, o', e1', e2, e3⟩
    . erw [hb]; exact .inr hD
  . rcases List.mem_append.mp l with l | l
    . exact P.adO a l
    . erw [List.mem_singleton.mp l]; exact .inr hD
theorem b9y {elt iter : CE} {Qf : List V -> List O -> Prop} {el it : Expr} {pos pos' : Pos} {use : Option (Value -> Sem Unit)} {QQ : Value -> Shared -> Prop}
    (t : TI W k iter ρ σ fun l σ₁ => ∃ CI : Nat -> List V -> List O -> Prop, CI 0 [] σ₁ /\ (∀ j x vals σc, l[j]? = some x -> CI j vals σc -> TE W k elt (ρ ++ [some x]) σc fun v σ₃ => CI (j + 1) (vals ++ [v]) σ₃) /\ ∀ vals σc, CI l.length vals σc -> Qf vals σc)
    (T : CmpT names sc csc true 1 tg tn) (h2 : isE names sc iter it = true) (h3 : isE (names ++ tn) csc elt el = true) (hk : KindsOk X.env sc) (hr : Room X.A k) (hw : W.ok X.hB) (S : St W.gl X names ρ σ Λ ad s)
    (fin : ∀ cur C D Λf ad' vals σc m, St W.gl X names ρ (σc ++ [.lstV vals]) Λf (ad' ++ [D]) cur -> Step (a1c X.env) σ ad Λ s.heap (σc ++ [.lstV vals]) (ad' ++ [D]) Λf cur.heap -> ad'.length = σc.length -> Qf vals σc -> Λf C -> C ∉ ad' ++ [D] -> C ≠ X.env.locals -> cur.heap.Ns C m -> s.heap.get? C = none ->
      compPost (model W.p W.w) X.A (fun ζ ζ => False) use QQ (.ref D) C (.ok .next) cur) :
    wpAny (model W.p W.w) X.A (comprehension (.ListComp el [⟨tg, it, [], 0⟩] csc pos) csc X.env pos' (newList []) false (eval it X.env) use) QQ (fun ζ ζ => False) s := by
  refine b2r (ifs := []) (cond := none) (Qf := Qf) (TI.mono t (fun l σ₁ h => ?_) names sc it h2 X hk hr hw Λ ad s S) T h2 h3 rfl hk hr hw S fun cur C D Λc ad' ys n vals σc m So Po hΛ hA hL hn hD r q cΛ cA cL cD cN cn => ?_
  . refine xEAA h fun CI ci0 hitem q => ?_
    exact ⟨CI, ci0, fun j x vals σc hx h => ⟨ρ ++ [some x], rfl, hitem j x vals σc hx h⟩, q⟩
  . refine fin cur C D Λc ad' vals σc m (So.adopt hΛ hA hL hD r) (Po.adopt So.len hn) So.len q cΛ (fun h => ?_) cL cN cn
    rcases List.mem_append.mp h with h | h
    . exact cA h
    . exact cD (List.mem_singleton.mp h)
theorem TS1.asgCV {i : Nat} {elt iter : CE} {Q : Out -> List (Option V) -> List O -> Prop}
    (t : TI W k iter ρ σ fun l σ₁ => ∃ CI : Nat -> List V -> List O -> Prop, CI 0 [] σ₁ /\ (∀ j x vals σc, l[j]? = some x -> CI j vals σc -> TE W k elt (ρ ++ [some x]) σc fun v σ₃ => CI (j + 1) (vals ++ [v]) σ₃) /\ ∀ vals σc, CI l.length vals σc -> Q .next (ρ.set i (some (.r σc.length))) (σc ++ [.lstV vals])) : TS1 W k (.asg i (.comp elt 1 true iter none)) ρ σ Q := fun names sc S he X hk hr hw Λ ad s St' => by
  replace he := a8f he; obtain ⟨x, px, v, pos, rfl, he⟩ := he
  simp only [Bool.and_eq_true] at he
  have hv := he.2
  obtain ⟨el, tg, it, ifs, csc, cpos, tn, rfl, T, h2, h3, h4⟩ := a6t hv
  replace h4 := b2b h4; obtain ⟨rfl, h4⟩ := h4
  obtain ⟨b, hb⟩ : ∃ b : Bool, swapsWith (.ListComp el [⟨tg, it, [], 0⟩] csc cpos) (some (.Name x px)) pos.line X.env = pure b /\ (b = true -> X.env.kindOf x = some .local) := ⟨_, rfl, fun h => by
    simp only [Bool.and_eq_true, beq_iff_eq] at h; exact h.1.1.2⟩
  have key : ∀ {use : Option (Value -> Sem Unit)} {QQ : Value -> Shared -> Prop} {pos'},
      (∀ cur C D Λf ad' vals σc m, St W.gl X names ρ (σc ++ [.lstV vals]) Λf (ad' ++ [D]) cur -> Step (a1c X.env) σ ad Λ s.heap (σc ++ [.lstV vals]) (ad' ++ [D]) Λf cur.heap -> ad'.length = σc.length -> Q .next (ρ.set i (some (.r σc.length))) (σc ++ [.lstV vals]) -> Λf C -> C ∉ ad' ++ [D] -> C ≠ X.env.locals -> cur.heap.Ns C m -> s.heap.get? C = none ->
        compPost (model W.p W.w) X.A (fun ζ ζ => False) use QQ (.ref D) C (.ok .next) cur) ->
      wpAny (model W.p W.w) X.A (comprehension (.ListComp el [⟨tg, it, [], 0⟩] csc cpos) csc X.env pos' (newList []) false (eval it X.env) use) QQ (fun ζ ζ => False) s := fun fin =>
    b9y (iter := iter) (elt := elt) (Qf := fun vals σc => Q .next (ρ.set i (some (.r σc.length))) (σc ++ [.lstV vals])) t T h2 h3 hk hr hw St' fin
  cases b with
  | false =>
    refine wpAny_Assign_Name ?_ hb.1
    erw [eval_ListComp]
    show wpAny _ _ (comprehension (.ListComp el [⟨tg, it, [], 0⟩] csc cpos) csc X.env it.pos (newList []) false (eval it X.env) Option.none) _ _ _
    refine key fun cur C D Λf ad' vals σc m So Po hl q hΛ hA hL hn hC => ⟨m, hn, fun h' hs' => ?_⟩
    refine xAA (So.dropC hΛ hA hL hn hs' Po hC) fun S' K P' => ?_
    exact S'.store hk he.1 (.r (i := σc.length) (by erw [← hl, List.getElem?_append_right (Nat.le_refl _), Nat.sub_self]; rfl)) fun s₂ S₂ P₂ => ⟨.next, _, _, _, _, S₂, P'.own.trans P₂.ownS, .next, q⟩
  | true =>
    erw [exec_Assign_Name_used _ _ _ _ hb.1]
    refine wpAny_bind (wpAny_standAt (wpAny_bind ?_))
    show wpAny _ _ (do let _ ← comprehension (.ListComp el [⟨tg, it, [], 0⟩] csc cpos) csc X.env it.pos (newList []) false (eval it X.env) (some (assign (.Name x px) X.env))) _ _ s
    refine wpAny_bind (wpAny_mono (key (QQ := fun ζ s' => PostS W.gl X names σ Λ ad s Q .next s') fun cur C D Λf ad' vals σc m So Po hl q hΛ hA hL hn hC => ?_) (fun ζ s' hq => wpAny_pure (wpAny_pure hq)) fun ζ ζ f => f)
    show wpAny _ _ (assign (.Name x px) X.env (.ref D)) _ _ _
    refine wpAny_assign_Name (So.store hk he.1 (.r (i := σc.length) (by erw [← hl, List.getElem?_append_right (Nat.le_refl _), Nat.sub_self]; rfl)) fun s₂ S₂ P₂ => ?_)
    have hnl : ¬ a2w (σc ++ [.lstV vals]) (ad' ++ [D]) C := fun ⟨i, o, e1, _⟩ => hA (a0j e1)
    have hne : ¬ a1u sc X.env C := fun h => by
      rcases h with h | ⟨y, _, h⟩
      . exact hL h
      . refine a1f So.vars fun m' cm ζ hc ζ => ?_
        exact a6u hn _ (hc y C h)
    have hn₂ : s₂.heap.Ns C m := by
      obtain ⟨o, es, ep, e, r⟩ := hn
      exact ⟨o, es, ep, P₂.only C o hnl hne e, r⟩
    refine ⟨m, hn₂, fun h' hs' => ?_⟩
    refine xAA (S₂.dropC hΛ hA hL hn₂ hs' (Po.own.trans P₂.ownS) hC) fun S' K P' => ?_
    exact ⟨.next, _, _, _, _, S', P', .next, q⟩
end
end Mine
end
section
open PySem PyProof.Rows
namespace Mine
noncomputable def AllP : List Prop -> Prop
  | [] => True
  | c :: cs => c /\ AllP cs
inductive Spec (W : World0) (k : Nat) (f : String) (args : List V) (r : D) : Prop
  | mk (cf : CF) (has : HasF W f cf) (run : Fun W k f args fun x => x = r) : Spec W k f args r
noncomputable def TEq (W : World0) (k : Nat) (e : CE) (ρ : List (Option V)) (σ : List O) (r : D) : Prop := TE W k e ρ σ fun v σ' => v = .d r /\ σ' = σ
noncomputable def b2 {α : Type} (x : Option (V × List Prop × List D)) (f : V -> List Prop -> List D -> Option α) : Option α := match x with
  | some (v, cs, tp) => f v cs tp
  | none => none
noncomputable def bB {α : Type} (x : Option (V × List Prop × List D)) (f : Bool -> List Prop -> List D -> Option α) : Option α := match x with
  | some (.d (.bool b), cs, tp) => f b cs tp
  | _ => none
noncomputable def bI {α : Type} (x : Option D) (f : Int -> Option α) : Option α := match x with
  | some (.int i) => f i
  | _ => none
noncomputable def bL {α : Type} (x : Option (List V × List Prop × List D)) (f : List V -> List Prop -> List D -> Option α) : Option α := match x with
  | some (v, cs, tp) => f v cs tp
  | none => none
noncomputable def bT {α : Type} (tp : List D) (f : D -> List D -> Option α) : Option α := match tp with
  | x :: tp => f x tp
  | [] => none
noncomputable def pint (op : Operator) (a b : Int) (cs : List Prop) (tp : List D) : Option (V × List Prop × List D) := match op with
  | .Add => some (.d (.int (a + b)), cs, tp)
  | .Sub => some (.d (.int (a - b)), cs, tp)
  | .Mult => some (.d (.int (a * b)), ((-(2 ^ 64) < a /\ a < 2 ^ 64) ∨ (-(2 ^ 64) < b /\ b < 2 ^ 64)) :: cs, tp)
  | .FloorDiv => some (.d (.int (a.fdiv b)), (b ≠ 0 /\ b.natAbs < 1073741824) :: cs, tp)
  | .Mod => some (.d (.int (a.fmod b)), (b ≠ 0) :: cs, tp)
  | _ => none
noncomputable def bAdd {α : Type} (op : Operator) (x : Option α) : Option α := match op with
  | .Add => x
  | _ => none
noncomputable def bO {α β : Type} (x : Option β) (f : β -> Option α) : Option α := match x with
  | some b => f b
  | none => none
noncomputable def padd (op : Operator) (l l' : Option (List D)) (cs : List Prop) (tp : List D) : Option (V × List Prop × List D) :=
  bAdd op (bO l fun l => bO l' fun l' => some (.d (.lst (l ++ l')), (l.length + l'.length <= 16777216) :: cs, tp))
noncomputable def pbin (op : Operator) (σ : List O) (va vb : V) (cs : List Prop) (tp : List D) : Option (V × List Prop × List D) := match a0i σ va with
  | some (.int a) => bI (a0i σ vb) fun b => pint op a b cs tp
  | some (.lst _) => padd op (lstV σ va) (lstV σ vb) cs tp
  | _ => none
noncomputable def peq (x y : Option D) (cs : List Prop) : Option (Bool × List Prop) := match x, y with
  | some (.int a), some (.int b) => some (a == b, cs)
  | some x, some y => some (eqD x y, (a0y x = true /\ a0y y = true /\ dep x <= 200) :: cs)
  | _, _ => none
noncomputable def pis (x : Option D) (vb : V) : Option Bool := match vb, x with
  | .d .none, some (.fn _) => none
  | .d .none, some .none => some true
  | .d .none, some _ => some false
  | _, _ => none
noncomputable def bE {α : Type} (x : Option (Bool × List Prop)) (f : Bool -> List Prop -> Option α) : Option α := match x with
  | some (b, cs) => f b cs
  | none => none
noncomputable def pcmp (op : CmpOp) (σ : List O) (va vb : V) (cs : List Prop) (tp : List D) : Option (V × List Prop × List D) := match op with
  | .Lt => bI (a0i σ va) fun a => bI (a0i σ vb) fun b => some (.d (.bool (decide (a < b))), cs, tp)
  | .LtE => bI (a0i σ va) fun a => bI (a0i σ vb) fun b => some (.d (.bool (decide (a <= b))), cs, tp)
  | .Gt => bI (a0i σ va) fun a => bI (a0i σ vb) fun b => some (.d (.bool (decide (b < a))), cs, tp)
  | .GtE => bI (a0i σ va) fun a => bI (a0i σ vb) fun b => some (.d (.bool (decide (b <= a))), cs, tp)
  | .Eq => bE (peq (a0i σ va) (a0i σ vb) cs) fun b cs => some (.d (.bool b), cs, tp)
  | .NotEq => bE (peq (a0i σ va) (a0i σ vb) cs) fun b cs => some (.d (.bool !b), cs, tp)
  | .Is => bO (pis (a0i σ va) vb) fun b => some (.d (.bool b), cs, tp)
  | .IsNot => bO (pis (a0i σ va) vb) fun b => some (.d (.bool !b), cs, tp)
  | _ => none
noncomputable def plit (σ : List O) (va : V) (i : Int) : Option V := match seqV σ va, i with
  | some (_, l), .ofNat n => if Nat.blt n 1000 then l[n]? else none
  | _, _ => none
noncomputable def dsOf : List V -> Option (List D)
  | [] => some []
  | .d x :: l => bO (dsOf l) fun l => some (x :: l)
  | _ :: _ => none
noncomputable def bW {α : Type} (b : Bool) (x : Option α) : Option α := match b with
  | true => x
  | false => none
noncomputable def bX {α : Type} {e : CE} (x : Option {n : Int // e = .int n}) (f : Int -> Option α) (y : Option α) : Option α := match x with
  | some n => f n.1
  | none => y
noncomputable def litOf (e : CE) : Option {n : Int // e = .int n} := match e with
  | .int n => some ⟨n, rfl⟩
  | _ => none
noncomputable def b9z (σ : List O) : List V -> Option (List V)
  | [] => some []
  | .d x :: l => bO (b9z σ l) fun l => some (.d x :: l)
  | v :: l => bO (a0i σ v) fun x => bO (b9z σ l) fun l => some (.a x :: l)
set_option tactic.hygienic true in
mutual
noncomputable def pv (W : World0) (k : Nat) (σ : List O) (ρ : List (Option V)) : CE -> List Prop -> List D -> Option (V × List Prop × List D)
  | .int i, cs, tp => some (.d (.int i), cs, tp)
  | .bool b, cs, tp => some (.d (.bool b), cs, tp)
  | .none, cs, tp => some (.d .none, cs, tp)
  | .str x, cs, tp => some (.d (.str (Str.ofString x)), cs, tp)
  | .var i, cs, tp => bO ρ[i]? fun v => bO v fun v => some (v, cs, tp)
  | .bin op a b, cs, tp => b2 (pv W k σ ρ a cs tp) fun va cs tp => b2 (pv W k σ ρ b cs tp) fun vb cs tp => pbin op σ va vb cs tp
  | .cmp op a b, cs, tp => b2 (pv W k σ ρ a cs tp) fun va cs tp => b2 (pv W k σ ρ b cs tp) fun vb cs tp => pcmp op σ va vb cs tp
  | .neg a, cs, tp => b2 (pv W k σ ρ a cs tp) fun va cs tp => bI (a0i σ va) fun i => some (.d (.int (-i)), cs, tp)
  | .not a, cs, tp => bB (pv W k σ ρ a cs tp) fun b cs tp => some (.d (.bool !b), cs, tp)
  | .and l, cs, tp => pvA W k σ ρ l cs tp
  | .or l, cs, tp => pvO W k σ ρ l cs tp
  | .tup l, cs, tp => bL (pvs W k σ ρ l cs tp) fun vs cs tp => bO (dsOf vs) fun l => bW (Nat.ble l.length 100) (some (.d (.tup l), cs, tp))
  | .lst l, cs, tp => bL (pvs W k σ ρ l cs tp) fun vs cs tp => bO (dsOf vs) fun l => bW (Nat.ble l.length 100) (some (.d (.lst l), cs, tp))
  | .sub a i, cs, tp => b2 (pv W k σ ρ a cs tp) fun va cs tp => bX (litOf i) (fun n => bO (plit σ va n) fun v => some (v, cs, tp))
      (b2 (pv W k σ ρ i cs tp) fun vi cs tp => bT tp fun x tp => some (.d x, SubV σ va vi (.d x) :: cs, tp))
  | .call f l, cs, tp => bL (pvs W k σ ρ l cs tp) fun vs cs tp => bO (b9z σ vs) fun args => bW (!vs.isEmpty) (bT tp fun x tp => some (.d x, Spec W k f args x :: cs, tp))
  | .cmp2 _ _ _ _ _, _, _ => none
  | .ite _ _ _, _, _ => none
  | e, cs, tp => bT tp fun x tp => some (.d x, TEq W k e ρ σ x :: cs, tp)
noncomputable def pvs (W : World0) (k : Nat) (σ : List O) (ρ : List (Option V)) : List CE -> List Prop -> List D -> Option (List V × List Prop × List D)
  | [], cs, tp => some ([], cs, tp)
  | e :: es, cs, tp => b2 (pv W k σ ρ e cs tp) fun v cs tp => bL (pvs W k σ ρ es cs tp) fun vs cs tp => some (v :: vs, cs, tp)
noncomputable def pvA (W : World0) (k : Nat) (σ : List O) (ρ : List (Option V)) : List CE -> List Prop -> List D -> Option (V × List Prop × List D)
  | [], cs, tp => none
  | [e], cs, tp => bB (pv W k σ ρ e cs tp) fun b cs tp => some (.d (.bool b), cs, tp)
  | e :: es, cs, tp => bB (pv W k σ ρ e cs tp) fun b cs tp => bB (pvA W k σ ρ es cs tp) fun c cs tp => some (.d (.bool (b && c)), cs, tp)
noncomputable def pvO (W : World0) (k : Nat) (σ : List O) (ρ : List (Option V)) : List CE -> List Prop -> List D -> Option (V × List Prop × List D)
  | [], cs, tp => none
  | [e], cs, tp => bB (pv W k σ ρ e cs tp) fun b cs tp => some (.d (.bool b), cs, tp)
  | e :: es, cs, tp => bB (pv W k σ ρ e cs tp) fun b cs tp => bB (pvO W k σ ρ es cs tp) fun c cs tp => some (.d (.bool (b || c)), cs, tp)
end
section
variable {α β : Type}
theorem a4j {x : Option (V × List Prop × List D)} {f : V -> List Prop -> List D -> Option α} {r : α} (h : b2 x f = some r) : ∃ v cs tp, x = some (v, cs, tp) /\ f v cs tp = some r := by
  cases x with
  | none => exact dNS h
  | some p => obtain ⟨v, cs, tp⟩ := p; exact ⟨v, cs, tp, rfl, h⟩
theorem a5r {x : Option (V × List Prop × List D)} {f : Bool -> List Prop -> List D -> Option α} {r : α} (h : bB x f = some r) : ∃ v cs tp, x = some (.d (.bool v), cs, tp) /\ f v cs tp = some r := by
  cases x with
  | none => exact dNS h
  | some p =>
    obtain ⟨v, cs, tp⟩ := p
    cases v with
    | d x => cases x with
      | bool b => exact ⟨b, cs, tp, rfl, h⟩
      | _ => exact dNS h
    | _ => exact dNS h
theorem a3h {x : Option D} {f : Int -> Option α} {r : α} (h : bI x f = some r) : ∃ i, x = some (.int i) /\ f i = some r := by
  cases x with
  | none => exact dNS h
  | some p => cases p with
    | int i => exact ⟨i, rfl, h⟩
    | _ => exact dNS h
theorem b0x {x : Option (List V × List Prop × List D)} {f : List V -> List Prop -> List D -> Option α} {r : α} (h : bL x f = some r) : ∃ v cs tp, x = some (v, cs, tp) /\ f v cs tp = some r := by
  cases x with
  | none => exact dNS h
  | some p => obtain ⟨v, cs, tp⟩ := p; exact ⟨v, cs, tp, rfl, h⟩
theorem b4q {x : List D} {f : D -> List D -> Option α} {r : α} (h : bT x f = some r) : ∃ y tp, f y tp = some r := by
  cases x with
  | nil => exact dNS h
  | cons y tp => exact ⟨y, tp, h⟩
theorem c0a {x : Option (Bool × List Prop)} {f : Bool -> List Prop -> Option α} {r : α} (h : bE x f = some r) : ∃ b cs, x = some (b, cs) /\ f b cs = some r := by
  cases x with
  | none => exact dNS h
  | some p => exact ⟨p.1, p.2, rfl, h⟩
theorem a1i {x : Option β} {f : β -> Option α} {r : α} (h : bO x f = some r) : ∃ b, x = some b /\ f b = some r := by
  cases x with
  | none => exact dNS h
  | some p => exact ⟨p, rfl, h⟩
theorem b4r {b : Bool} {x : Option α} {r : α} (h : bW b x = some r) : b = true /\ x = some r := by
  cases b with
  | false => exact dNS h
  | true => exact ⟨rfl, h⟩
theorem bX_some {e : CE} {x : Option {n : Int // e = .int n}} {f : Int -> Option α} {y : Option α} {r : α} (h : bX x f y = some r) : (∃ n, e = .int n /\ f n = some r) ∨ y = some r := by
  cases x with
  | none => exact .inr h
  | some n => exact .inl ⟨n.1, n.2, h⟩
end
theorem a0w {v v' : V} {cs cs' : List Prop} {tp tp' : List D} (h : some (v, cs, tp) = some (v', cs', tp')) : v = v' /\ cs = cs' := by cases h; exact ⟨rfl, rfl⟩
section
variable {W : World0} {k : Nat} {σ : List O} {ρ : List (Option V)} {cs cs' : List Prop} {tp tp' : List D}
theorem c8n {op : Operator} {va vb : V} {a b : Int} {v : V} (ha : a0i σ va = some (.int a)) (hb : a0i σ vb = some (.int b)) (h : pint op a b cs tp = some (v, cs', tp')) (hc : AllP cs') : AllP cs /\ ∃ r, v = .d r /\ BinV op σ va vb r := by
  cases op with
  | Add => obtain ⟨rfl, rfl⟩ := a0w h; exact ⟨hc, _, rfl, .int ha hb rfl trivial⟩
  | Sub => obtain ⟨rfl, rfl⟩ := a0w h; exact ⟨hc, _, rfl, .int ha hb rfl trivial⟩
  | Mult => obtain ⟨rfl, rfl⟩ := a0w h; exact ⟨hc.2, _, rfl, .int ha hb rfl hc.1⟩
  | FloorDiv => obtain ⟨rfl, rfl⟩ := a0w h; exact ⟨hc.2, _, rfl, .int ha hb rfl hc.1⟩
  | Mod => obtain ⟨rfl, rfl⟩ := a0w h; exact ⟨hc.2, _, rfl, .int ha hb rfl hc.1⟩
  | _ => exact dNS h
theorem c8o {op : Operator} {va vb : V} {v : V} (h : padd op (lstV σ va) (lstV σ vb) cs tp = some (v, cs', tp')) (hc : AllP cs') : AllP cs /\ ∃ r, v = .d r /\ BinV op σ va vb r := by
  cases op with
  | Add =>
    refine xEA (a1i (x := lstV σ va) h) fun l e1 h => ?_
    refine xEA (a1i h) fun l' e2 h => ?_
    obtain ⟨rfl, rfl⟩ := a0w h; exact ⟨hc.2, _, rfl, .addL e1 e2 hc.1⟩
  | _ => exact cNS h
theorem c8p {op : Operator} {va vb : V} {v : V} (h : pbin op σ va vb cs tp = some (v, cs', tp')) (hc : AllP cs') : AllP cs /\ ∃ r, v = .d r /\ BinV op σ va vb r := by
  unfold pbin at h
  cases e : a0i σ va with
  | none => rw [e] at h; exact dNS h
  | some x =>
    rw [e] at h
    cases x with
    | int a => refine xEA (a3h h) fun b hb h => ?_; exact c8n e hb h hc
    | lst l => exact c8o h hc
    | _ => exact dNS h
theorem b6j {va vb : V} {b : Bool} (h : peq (a0i σ va) (a0i σ vb) cs = some (b, cs')) (hc : AllP cs') : AllP cs /\ CmpV .Eq σ va vb b /\ CmpV .NotEq σ va vb !b := by
  have key : ∀ {x y : D}, a0i σ va = some x -> a0i σ vb = some y -> some (eqD x y, (a0y x = true /\ a0y y = true /\ dep x <= 200) :: cs) = some (b, cs') -> AllP cs /\ CmpV .Eq σ va vb b /\ CmpV .NotEq σ va vb !b := by
    intro x y ea eb e
    cases e
    exact ⟨hc.2, .eq ea eb hc.1.1 hc.1.2.1 hc.1.2.2, .ne ea eb hc.1.1 hc.1.2.1 hc.1.2.2⟩
  cases ea : a0i σ va with
  | none => rw [ea] at h; exact dNS h
  | some x => cases eb : a0i σ vb with
    | none => rw [ea, eb] at h; cases x <;> exact dNS h
    | some y =>
      rw [ea, eb] at h
      cases x with
      | int i => cases y with
        | int j => cases h; exact ⟨hc, .eq ea eb rfl rfl (Nat.zero_le _), .ne ea eb rfl rfl (Nat.zero_le _)⟩
        | _ => exact key ea eb h
      | _ => exact key ea eb h
theorem c6l {va vb : V} {b : Bool} (h : pis (a0i σ va) vb = some b) : CmpV .Is σ va vb b /\ CmpV .IsNot σ va vb !b := by
  cases vb with
  | d y => cases y with
    | none => cases ea : a0i σ va with
      | none => rw [ea] at h; exact dNS h
      | some x =>
        rw [ea] at h
        cases x with
        | fn f => exact dNS h
        | none => cases h; exact ⟨.isN ea (by intro f hf; cases hf), .isNotN ea (by intro f hf; cases hf)⟩
        | _ => cases h; exact ⟨.isN ea (by intro f hf; cases hf), .isNotN ea (by intro f hf; cases hf)⟩
    | _ => exact dNS h
  | _ => exact dNS h
theorem c8q {op : CmpOp} {va vb : V} {v : V} (h : pcmp op σ va vb cs tp = some (v, cs', tp')) (hc : AllP cs') : AllP cs /\ ∃ r, v = .d (.bool r) /\ CmpV op σ va vb r := by
  cases op with
  | Lt => refine xEA (a3h h) fun a ha h => ?_; refine xEA (a3h h) fun b hb h => ?_; obtain ⟨rfl, rfl⟩ := a0w h; exact ⟨hc, _, rfl, .lt ha hb⟩
  | LtE => refine xEA (a3h h) fun a ha h => ?_; refine xEA (a3h h) fun b hb h => ?_; obtain ⟨rfl, rfl⟩ := a0w h; exact ⟨hc, _, rfl, .le ha hb⟩
  | Gt => refine xEA (a3h h) fun a ha h => ?_; refine xEA (a3h h) fun b hb h => ?_; obtain ⟨rfl, rfl⟩ := a0w h; exact ⟨hc, _, rfl, .gt ha hb⟩
  | GtE => refine xEA (a3h h) fun a ha h => ?_; refine xEA (a3h h) fun b hb h => ?_; obtain ⟨rfl, rfl⟩ := a0w h; exact ⟨hc, _, rfl, .ge ha hb⟩
  | Eq => refine xEEA (c0a h) fun b c he h => ?_; obtain ⟨rfl, rfl⟩ := a0w h; exact ⟨(b6j he hc).1, _, rfl, (b6j he hc).2.1⟩
  | NotEq => refine xEEA (c0a h) fun b c he h => ?_; obtain ⟨rfl, rfl⟩ := a0w h; exact ⟨(b6j he hc).1, _, rfl, (b6j he hc).2.2⟩
  | Is => refine xEA (a1i h) fun b he h => ?_; obtain ⟨rfl, rfl⟩ := a0w h; exact ⟨hc, _, rfl, (c6l he).1⟩
  | IsNot => refine xEA (a1i h) fun b he h => ?_; obtain ⟨rfl, rfl⟩ := a0w h; exact ⟨hc, _, rfl, (c6l he).2⟩
  | _ => exact dNS h
set_option tactic.hygienic true in
theorem c8r {va : V} {i : Int} {v : V} (h : plit σ va i = some v) : SubV σ va (.d (.int i)) v := by
  unfold plit at h
  cases e : seqV σ va with
  | none => rw [e] at h; cases i <;> exact dNS h
  | some p =>
    obtain ⟨b, l⟩ := p
    rw [e] at h
    cases i with
    | negSucc n => exact dNS h
    | ofNat n =>
      simp only [] at h
      split at h
      . rename_i hb
        have hn : n < 1000 := Nat.le_of_ble_eq_true hb
        refine .seq e rfl (j := n) ?_ h ⟨by simp only [Int.ofNat_eq_natCast]; omega, by simp only [Int.ofNat_eq_natCast]; omega⟩
        have hl := (List.getElem?_eq_some_iff.mp h).1
        unfold seqIndex?
        have : ¬ (Int.ofNat n) < 0 := by simp only [Int.ofNat_eq_natCast]; exact om13
        simp only [this, if_false]
        rw [if_pos (by simp only [Int.ofNat_eq_natCast, Bool.and_eq_true, decide_eq_true_eq]; exact om22 hl)]
        simp
      . exact dNS h
theorem a8r : ∀ {vs : List V} {l : List D}, dsOf vs = some l -> vs = l.map V.d
  | [], l, h => by cases h; rfl
  | .d x :: vs, l, h => by refine xEA (a1i h) fun l' e h => ?_; cases h; erw [a8r e]; rfl
  | .a x :: vs, l, h => by exact dNS h
  | .r x :: vs, l, h => by exact dNS h
  | .t x :: vs, l, h => by exact dNS h
theorem a4y : ∀ {vs args : List V}, b9z σ vs = some args -> ArgsOk σ vs args
  | [], l, h => by cases h; exact .nil
  | .d x :: vs, l, h => by refine xEA (a1i h) fun l' e h => ?_; cases h; exact .cons (.d x) (a4y e)
  | .a x :: vs, l, h => by refine xEA (a1i h) fun y e' h => ?_; refine xEA (a1i h) fun l' e h => ?_; cases h; exact .cons (.a e') (a4y e)
  | .r x :: vs, l, h => by refine xEA (a1i h) fun y e' h => ?_; refine xEA (a1i h) fun l' e h => ?_; cases h; exact .cons (.a e') (a4y e)
  | .t x :: vs, l, h => by refine xEA (a1i h) fun y e' h => ?_; refine xEA (a1i h) fun l' e h => ?_; cases h; exact .cons (.a e') (a4y e)
end
end Mine
end
section
open PySem PyProof.Rows
namespace Mine
noncomputable def TEv (W : World0) (k : Nat) (e : CE) (ρ : List (Option V)) (σ : List O) (v : V) : Prop := TE W k e ρ σ fun v' σ' => v' = v /\ σ' = σ
noncomputable def TCv (W : World0) (k : Nat) (e : CE) (ρ : List (Option V)) (σ : List O) (b : Bool) : Prop := TC W k e ρ σ fun b' σ' => b' = b /\ σ' = σ
section
variable {W : World0} {k : Nat} {σ : List O} {ρ : List (Option V)}
theorem TEv.to {e : CE} {v : V} {Q : V -> List O -> Prop} (t : TEv W k e ρ σ v) (q : Q v σ) : TE W k e ρ σ Q := t.mono fun a b h => by erw [h.1, h.2]; exact q
theorem TCv.to {e : CE} {v : Bool} {Q : Bool -> List O -> Prop} (t : TCv W k e ρ σ v) (q : Q v σ) : TC W k e ρ σ Q := t.mono fun a b h => by erw [h.1, h.2]; exact q
theorem TEs.mono : ∀ {es : List CE} {σ : List O} {Q Q' : List V -> List O -> Prop}, TEs W k es ρ σ Q -> (∀ v σ, Q v σ -> Q' v σ) -> TEs W k es ρ σ Q'
  | [], _, _, _, t, h => h _ _ t
  | e :: es, _, _, _, t, h => TE.mono (e := e) t fun v σ' t' => TEs.mono (es := es) t' fun vs σ'' q => h _ _ q
noncomputable def TEsv (W : World0) (k : Nat) (es : List CE) (ρ : List (Option V)) (σ : List O) (vs : List V) : Prop := TEs W k es ρ σ fun v' σ' => v' = vs /\ σ' = σ
theorem TEsv.to {es : List CE} {v : List V} {Q : List V -> List O -> Prop} (t : TEsv W k es ρ σ v) (q : Q v σ) : TEs W k es ρ σ Q := t.mono fun a b h => by erw [h.1, h.2]; exact q
theorem TEsv.cons {e : CE} {es : List CE} {v : V} {vs : List V} (t : TEv W k e ρ σ v) (t' : TEsv W k es ρ σ vs) : TEsv W k (e :: es) ρ σ (v :: vs) :=
  t.to (Q := fun v σ' => TEs W k es ρ σ' fun vs' σ'' => v :: vs' = _ /\ σ'' = σ) (t'.to ⟨rfl, rfl⟩)
theorem TEv.call {f : String} {es : List CE} {vs args : List V} {x : D} (hne : es ≠ []) (t : TEsv W k es ρ σ vs) (ha : ArgsOk σ vs args) (s : Spec W k f args x) : TEv W k (.call f es) ρ σ (.d x) := by
  obtain ⟨cf, hf, F⟩ := s
  exact TE.call hf hne (t.to ⟨args, _, ha, F, fun r h => ⟨congrArg V.d h, rfl⟩⟩)
theorem TEv.bin {op : Operator} {a b : CE} {va vb : V} {r : D} (ta : TEv W k a ρ σ va) (tb : TEv W k b ρ σ vb) (h : BinV op σ va vb r) : TEv W k (.bin op a b) ρ σ (.d r) := TE.bin (ta.to (tb.to ⟨r, h, rfl, rfl⟩))
theorem TEv.cmp {op : CmpOp} {a b : CE} {va vb : V} {r : Bool} (ta : TEv W k a ρ σ va) (tb : TEv W k b ρ σ vb) (h : CmpV op σ va vb r) : TEv W k (.cmp op a b) ρ σ (.d (.bool r)) := TE.cmp (ta.to (tb.to ⟨r, h, rfl, rfl⟩))
theorem TCv.cmp {op : CmpOp} {a b : CE} {va vb : V} {r : Bool} (ta : TEv W k a ρ σ va) (tb : TEv W k b ρ σ vb) (h : CmpV op σ va vb r) : TCv W k (.cmp op a b) ρ σ r := TC.cmp (ta.to (tb.to ⟨r, h, rfl, rfl⟩))
theorem TEv.sub {a b : CE} {va vb : V} {r : V} (ta : TEv W k a ρ σ va) (tb : TEv W k b ρ σ vb) (h : SubV σ va vb r) : TEv W k (.sub a b) ρ σ r := TE.sub (ta.to (tb.to ⟨r, h, rfl, rfl⟩))
theorem TEv.and {a b : CE} {l : List CE} {x y : Bool} (ta : TEv W k a ρ σ (.d (.bool x))) (tb : TEv W k (.and (b :: l)) ρ σ (.d (.bool y))) : TEv W k (.and (a :: b :: l)) ρ σ (.d (.bool (x && y))) :=
  TE.and (ta.to ⟨x, rfl, by cases x with | true => exact tb | false => exact ⟨rfl, rfl⟩⟩)
theorem TEv.or {a b : CE} {l : List CE} {x y : Bool} (ta : TEv W k a ρ σ (.d (.bool x))) (tb : TEv W k (.or (b :: l)) ρ σ (.d (.bool y))) : TEv W k (.or (a :: b :: l)) ρ σ (.d (.bool (x || y))) :=
  TE.or (ta.to ⟨x, rfl, by cases x with | false => exact tb | true => exact ⟨rfl, rfl⟩⟩)
theorem TCv.and {a : CE} {l : List CE} {x y : Bool} (ta : TCv W k a ρ σ x) (tb : TCv W k (.and l) ρ σ y) : TCv W k (.and (a :: l)) ρ σ (x && y) :=
  TC.and (ta.to (by cases x with | true => exact tb | false => exact ⟨rfl, rfl⟩))
theorem TCv.or {a : CE} {l : List CE} {x y : Bool} (ta : TCv W k a ρ σ x) (tb : TCv W k (.or l) ρ σ y) : TCv W k (.or (a :: l)) ρ σ (x || y) :=
  TC.or (ta.to (by cases x with | false => exact tb | true => exact ⟨rfl, rfl⟩))
theorem TCv.of {e : CE} {b : Bool} (t : TEv W k e ρ σ (.d (.bool b))) (hp : a4f e = true) : TCv W k e ρ σ b := TC.of (t.to ⟨b, rfl, rfl, rfl⟩) hp
inductive PvOk (W : World0) (k : Nat) (σ : List O) (ρ : List (Option V)) (e : CE) (cs : List Prop) (v : V) : Prop
  | mk (h1 : AllP cs) (h2 : TEv W k e ρ σ v) (h3 : ∀ b, v = .d (.bool b) -> TCv W k e ρ σ b) : PvOk W k σ ρ e cs v
theorem PvOk.plain {e : CE} {cs : List Prop} {v : V} (h1 : AllP cs) (h2 : TEv W k e ρ σ v) (hp : a4f e = true) : PvOk W k σ ρ e cs v := ⟨h1, h2, fun b hb => .of (hb ▸ h2) hp⟩
theorem c0b : TCv W k (.and []) ρ σ true := TC.andNil ⟨rfl, rfl⟩
theorem c0c : TCv W k (.or []) ρ σ false := TC.orNil ⟨rfl, rfl⟩
theorem fall {e : CE} {v : V} {cs cs' : List Prop} {tp tp' : List D} (hp : a4f e = true) (h : bT tp (fun x tp => some (V.d x, TEq W k e ρ σ x :: cs, tp)) = some (v, cs', tp')) (hc : AllP cs') : PvOk W k σ ρ e cs v := by
  refine xEE (b4q h) fun y tp h => ?_; obtain ⟨rfl, rfl⟩ := a0w h; exact .plain hc.2 hc.1 hp
theorem PvOk.bools {e : CE} {cs : List Prop} {b : Bool} (h1 : AllP cs) (h2 : TEv W k e ρ σ (.d (.bool b))) (h3 : TCv W k e ρ σ b) : PvOk W k σ ρ e cs (.d (.bool b)) := ⟨h1, h2, fun c hc => by cases hc; exact h3⟩
theorem c8s {n : Nat} (h : Nat.ble n 100 = true) : n <= 16777216 := Nat.le_trans (Nat.le_of_ble_eq_true h) (by decide)
theorem c6m (es : List CE) {cs cs' : List Prop} {tp tp' : List D} {v : List V} (h : pvs W k σ ρ es cs tp = some (v, cs', tp')) (hn : (!v.isEmpty) = true) : es ≠ [] := by
  rintro rfl
  cases h; exact dFT hn
set_option tactic.hygienic true in
mutual
theorem a5i : ∀ (e : CE) {cs cs' : List Prop} {tp tp' : List D} {v : V}, pv W k σ ρ e cs tp = some (v, cs', tp') -> AllP cs' -> PvOk W k σ ρ e cs v
  | .int i, _, _, _, _, _, h, hc => by obtain ⟨rfl, rfl⟩ := a0w h; exact .plain hc (TE.int ⟨rfl, rfl⟩) rfl
  | .bool i, _, _, _, _, _, h, hc => by obtain ⟨rfl, rfl⟩ := a0w h; exact .plain hc (TE.bool ⟨rfl, rfl⟩) rfl
  | .none, _, _, _, _, _, h, hc => by obtain ⟨rfl, rfl⟩ := a0w h; exact .plain hc (TE.none ⟨rfl, rfl⟩) rfl
  | .str i, _, _, _, _, _, h, hc => by obtain ⟨rfl, rfl⟩ := a0w h; exact .plain hc (TE.str ⟨rfl, rfl⟩) rfl
  | .var i, _, _, _, _, _, h, hc => by refine xEA (a1i h) fun b e h => ?_; obtain ⟨b, rfl, h⟩ := a1i h; obtain ⟨rfl, rfl⟩ := a0w h; exact .plain hc (TE.var e ⟨rfl, rfl⟩) rfl
  | .bin op a b, _, _, _, _, _, h, hc => by
    refine a3q (a4j h) fun va c1 t1 ha h => ?_
    refine a3q (a4j h) fun vb c2 t2 hb h => ?_
    obtain ⟨h1, r, rfl, h2⟩ := c8p h hc
    obtain ⟨h1, tb, _⟩ := a5i b hb h1
    obtain ⟨h1, ta, _⟩ := a5i a ha h1
    exact .plain h1 (.bin ta tb h2) rfl
  | .cmp op a b, _, _, _, _, _, h, hc => by
    refine a3q (a4j h) fun va c1 t1 ha h => ?_
    refine a3q (a4j h) fun vb c2 t2 hb h => ?_
    obtain ⟨h1, r, rfl, h2⟩ := c8q h hc
    obtain ⟨h1, tb, _⟩ := a5i b hb h1
    obtain ⟨h1, ta, _⟩ := a5i a ha h1
    exact .bools h1 (.cmp ta tb h2) (.cmp ta tb h2)
  | .neg a, _, _, _, _, _, h, hc => by
    refine a3q (a4j h) fun va c1 t1 ha h => ?_
    refine xEA (a3h h) fun i hi h => ?_
    obtain ⟨rfl, rfl⟩ := a0w h
    obtain ⟨h1, ta, _⟩ := a5i a ha hc
    exact .plain h1 (TE.neg (ta.to ⟨i, hi, rfl, rfl⟩)) rfl
  | .not a, _, _, _, _, _, h, hc => by
    refine a3q (a5r h) fun b c1 t1 ha h => ?_
    obtain ⟨rfl, rfl⟩ := a0w h
    obtain ⟨h1, ta, tc⟩ := a5i a ha hc
    exact .bools h1 (TE.not (ta.to ⟨b, rfl, rfl, rfl⟩)) (TC.not ((tc b rfl).to ⟨rfl, rfl⟩))
  | .and l, _, _, _, _, _, h, hc => c6n l h hc
  | .or l, _, _, _, _, _, h, hc => c6o l h hc
  | .tup l, _, _, _, _, _, h, hc => by
    refine a3q (b0x h) fun va c1 t1 ha h => ?_
    refine xEA (a1i h) fun ds hd h => ?_
    obtain ⟨hl, h⟩ := b4r h
    obtain ⟨rfl, rfl⟩ := a0w h
    obtain ⟨h1, ts⟩ := a8s l ha hc
    exact .plain h1 (TE.tup (ts.to ⟨ds, a8r hd, c8s hl, rfl, rfl⟩)) rfl
  | .lst l, _, _, _, _, _, h, hc => by
    refine a3q (b0x h) fun va c1 t1 ha h => ?_
    refine xEA (a1i h) fun ds hd h => ?_
    obtain ⟨hl, h⟩ := b4r h
    obtain ⟨rfl, rfl⟩ := a0w h
    obtain ⟨h1, ts⟩ := a8s l ha hc
    exact .plain h1 (TE.lst (ts.to ⟨ds, a8r hd, c8s hl, rfl, rfl⟩)) rfl
  | .sub a i, _, _, _, _, _, h, hc => by
    refine a3q (a4j h) fun va c1 t1 ha h => ?_
    rcases bX_some h with ⟨n, hn, h⟩ | h
    . refine xEA (a1i h) fun x hx h => ?_
      obtain ⟨rfl, rfl⟩ := a0w h
      obtain ⟨h1, ta, _⟩ := a5i a ha hc
      exact .plain h1 (.sub ta (hn ▸ TE.int ⟨rfl, rfl⟩) (c8r hx)) rfl
    . refine a3q (a4j h) fun vi c2 t2 hi h => ?_
      refine xEE (b4q h) fun y tp h => ?_
      obtain ⟨rfl, rfl⟩ := a0w h
      obtain ⟨h1, ti, _⟩ := a5i i hi hc.2
      obtain ⟨h1, ta, _⟩ := a5i a ha h1
      exact .plain h1 (.sub ta ti hc.1) rfl
  | .call f l, _, _, _, _, _, h, hc => by
    refine a3q (b0x h) fun va c1 t1 ha h => ?_
    refine xEA (a1i h) fun args hd h => ?_
    obtain ⟨hne, h⟩ := b4r h
    refine xEE (b4q h) fun y tp h => ?_
    obtain ⟨rfl, rfl⟩ := a0w h
    obtain ⟨h1, ts⟩ := a8s l ha hc.2
    exact .plain h1 (.call (c6m l ha hne) ts (a4y hd) hc.1) rfl
  | .gv f, _, _, _, _, _, h, hc => fall rfl h hc
  | .cmp2 _ _ _ _ _, _, _, _, _, _, h, hc => by exact dNS h
  | .ite _ _ _, _, _, _, _, _, h, hc => by exact dNS h
  | .dct0, _, _, _, _, _, h, hc => fall rfl h hc
  | .dct1 _ _, _, _, _, _, _, h, hc => fall rfl h hc
  | .slice _ _ _, _, _, _, _, _, h, hc => fall rfl h hc
  | .callv _ _, _, _, _, _, _, h, hc => fall rfl h hc
  | .prim _ _, _, _, _, _, _, h, hc => fall rfl h hc
  | .isi _ _, _, _, _, _, _, h, hc => fall rfl h hc
  | .meth _ _ _, _, _, _, _, _, h, hc => fall rfl h hc
  | .comp _ _ _ _ _, _, _, _, _, _, h, hc => fall rfl h hc
  | .lam _ _, _, _, _, _, _, h, hc => fall rfl h hc
theorem a8s : ∀ (es : List CE) {cs cs' : List Prop} {tp tp' : List D} {v : List V}, pvs W k σ ρ es cs tp = some (v, cs', tp') -> AllP cs' -> AllP cs /\ TEsv W k es ρ σ v
  | [], _, _, _, _, _, h, hc => by cases h; exact ⟨hc, rfl, rfl⟩
  | e :: es, _, _, _, _, _, h, hc => by
    refine a3q (a4j h) fun v c1 t1 ha h => ?_
    refine a3q (b0x h) fun vs c2 t2 hb h => ?_
    cases h
    obtain ⟨h1, ts⟩ := a8s es hb hc
    obtain ⟨h1, t, _⟩ := a5i e ha h1
    exact ⟨h1, .cons t ts⟩
theorem c6n : ∀ (es : List CE) {cs cs' : List Prop} {tp tp' : List D} {v : V}, pvA W k σ ρ es cs tp = some (v, cs', tp') -> AllP cs' -> PvOk W k σ ρ (.and es) cs v
  | [], _, _, _, _, _, h, hc => by exact dNS h
  | [e], _, _, _, _, _, h, hc => by
    refine a3q (a5r h) fun b c1 t1 ha h => ?_
    obtain ⟨rfl, rfl⟩ := a0w h
    obtain ⟨h1, t, tc⟩ := a5i e ha hc
    exact .bools h1 (TE.and1 t) (by have := TCv.and (tc b rfl) c0b; rwa [Bool.and_true] at this)
  | e :: e' :: es, _, _, _, _, _, h, hc => by
    refine a3q (a5r h) fun b c1 t1 ha h => ?_
    refine a3q (a5r h) fun c c2 t2 hb h => ?_
    obtain ⟨rfl, rfl⟩ := a0w h
    obtain ⟨h1, t, tc⟩ := c6n (e' :: es) hb hc
    obtain ⟨h1, t', tc'⟩ := a5i e ha h1
    exact .bools h1 (.and t' t) (.and (tc' b rfl) (tc c rfl))
theorem c6o : ∀ (es : List CE) {cs cs' : List Prop} {tp tp' : List D} {v : V}, pvO W k σ ρ es cs tp = some (v, cs', tp') -> AllP cs' -> PvOk W k σ ρ (.or es) cs v
  | [], _, _, _, _, _, h, hc => by exact dNS h
  | [e], _, _, _, _, _, h, hc => by
    refine a3q (a5r h) fun b c1 t1 ha h => ?_
    obtain ⟨rfl, rfl⟩ := a0w h
    obtain ⟨h1, t, tc⟩ := a5i e ha hc
    exact .bools h1 (TE.or1 t) (by have := TCv.or (tc b rfl) c0c; rwa [Bool.or_false] at this)
  | e :: e' :: es, _, _, _, _, _, h, hc => by
    refine a3q (a5r h) fun b c1 t1 ha h => ?_
    refine a3q (a5r h) fun c c2 t2 hb h => ?_
    obtain ⟨rfl, rfl⟩ := a0w h
    obtain ⟨h1, t, tc⟩ := c6o (e' :: es) hb hc
    obtain ⟨h1, t', tc'⟩ := a5i e ha h1
    exact .bools h1 (.or t' t) (.or (tc' b rfl) (tc c rfl))
end
end
end Mine
end
section
open PySem PyProof.Rows
namespace Mine
noncomputable def lp (Inv : Nat -> List (Option V) -> List O -> Prop) (j : Nat) (Q : Out -> List (Option V) -> List O -> Prop) : Out -> List (Option V) -> List O -> Prop
  | .next, ρ, σ => Inv (j + 1) ρ σ
  | .ret v, ρ, σ => Q (.ret v) ρ σ
noncomputable def retQ (r : D) : Out -> List (Option V) -> List O -> Prop := fun out ζ σ' => outD σ' out = some r
section
variable {W : World0} {k : Nat} {σ : List O} {ρ : List (Option V)} {tape : List D} {cs : List Prop} {Q : Out -> List (Option V) -> List O -> Prop} {ss : List CS}
theorem Spec.intro {f : String} {cf : CF} {args : List V} {r : D} (hf : HasF W f cf) (hlen : args.length = cf.nparams) (t : TS W k cf.body (args.map some ++ List.replicate (cf.nvars - cf.nparams) none) [] (retQ r)) : Spec W (k + 1) f args r :=
  ⟨cf, hf, Fun.intro hf hlen (t.mono fun o a b h => ⟨r, h, rfl⟩)⟩
theorem TE.ev {e : CE} {v : V} {Q : V -> List O -> Prop} (h : pv W k σ ρ e [] tape = some (v, cs, [])) (hc : AllP cs) (q : Q v σ) : TE W k e ρ σ Q := by
  obtain ⟨_, t, _⟩ := a5i e h hc
  exact t.to q
theorem TEq.ev {e : CE} {x : D} (h : pv W k σ ρ e [] tape = some (.d x, cs, [])) (hc : AllP cs) : TEq W k e ρ σ x := TE.ev h hc ⟨rfl, rfl⟩
theorem TC.ev {e : CE} {b : Bool} {Q : Bool -> List O -> Prop} (h : pv W k σ ρ e [] tape = some (.d (.bool b), cs, [])) (hc : AllP cs) (q : Q b σ) : TC W k e ρ σ Q := by
  obtain ⟨_, _, t⟩ := a5i e h hc
  exact (t b rfl).to q
theorem TEq.to {e : CE} {x : D} {Q : V -> List O -> Prop} (t : TEq W k e ρ σ x) (q : Q (.d x) σ) : TE W k e ρ σ Q := t.mono fun a b h => by erw [h.1, h.2]; exact q
theorem TS.asgV {i : Nat} {e : CE} {v : V} (h : pv W k σ ρ e [] tape = some (v, cs, [])) (hc : AllP cs) (t : TS W k ss (ρ.set i (some v)) σ Q) (hn : a1v e = true := by rfl) : TS W k (.asg i e :: ss) ρ σ Q :=
  TS.cons (TS1.asg (TE.ev h hc t) hn)
theorem TS.retV {e : CE} {v : V} (h : pv W k σ ρ e [] tape = some (v, cs, [])) (hc : AllP cs) (q : Q (.ret v) ρ σ) : TS W k (.ret e :: ss) ρ σ Q :=
  TS.cons (TS1.ret (TE.ev h hc q))
theorem TS.exV {e : CE} {v : V} (h : pv W k σ ρ e [] tape = some (v, cs, [])) (hc : AllP cs) (t : TS W k ss ρ σ Q) (hn : a1v e = true := by rfl) : TS W k (.ex e :: ss) ρ σ Q :=
  TS.cons (TS1.ex (TE.ev h hc t) hn)
theorem TS.iteV {c : CE} {s t : List CS} {b : Bool} (h : pv W k σ ρ c [] tape = some (.d (.bool b), cs, [])) (hc : AllP cs) (ht : b = true -> TS W k s ρ σ (thn W k ss Q)) (hf : b = false -> TS W k t ρ σ (thn W k ss Q)) : TS W k (.ite c s t :: ss) ρ σ Q :=
  TS.cons (TS1.ite (TC.ev h hc (by cases b with | true => exact ht rfl | false => exact hf rfl)))
theorem TS.ifV {c : CE} {s : List CS} {b : Bool} (h : pv W k σ ρ c [] tape = some (.d (.bool b), cs, [])) (hc : AllP cs) (ht : b = true -> TS W k s ρ σ (thn W k ss Q)) (hf : b = false -> TS W k ss ρ σ Q) : TS W k (.ite c s [] :: ss) ρ σ Q :=
  TS.iteV h hc ht fun e => TS.nil (hf e)
theorem TS.asgTV {is : List Nat} {e : CE} {v : V} {l : List V} (h : pv W k σ ρ e [] tape = some (v, cs, [])) (hc : AllP cs) (hl : seqV σ v = some (false, l)) (hn : l.length = is.length) (t : TS W k ss (a3r ρ is l) σ Q) (hk : b6e e = true := by rfl) : TS W k (.asgT is e :: ss) ρ σ Q :=
  TS.cons (TS1.asgT (TE.ev h hc ⟨l, hl, hn, t⟩) hk)
theorem c0d {m j : Nat} {x : V} (h : ((List.range (m : Int).toNat).map fun (i : Nat) => V.d (.int (i : Int)))[j]? = some x) : j < m /\ x = .d (.int (j : Int)) := by
  rw [List.getElem?_map, Int.toNat_natCast] at h
  cases hr : (List.range m)[j]? with
  | none => rw [hr] at h; exact dNS h
  | some b =>
    rw [hr] at h
    obtain ⟨h1, h2⟩ := List.getElem?_eq_some_iff.mp hr
    rw [List.getElem_range] at h2
    subst h2; cases h
    rw [List.length_range] at h1
    exact ⟨h1, rfl⟩
theorem c0e (m : Nat) : -(2 ^ 61) < (m : Int) := Int.lt_of_lt_of_le (by decide) (Int.natCast_nonneg m)
theorem TI.rangeV (hW : WOk W) {e : CE} {m : Nat} {Q : List V -> List O -> Prop} (h : pv W k σ ρ e [] tape = some (.d (.int (m : Int)), cs, [])) (hc : AllP cs) (hm : m <= 16777216) (q : Q ((List.range (m : Int).toNat).map fun (i : Nat) => .d (.int i)) σ) : TI W k (.prim "range" [e]) ρ σ Q :=
  TI.range1 hW (TE.ev h hc ⟨m, rfl, c0e m, Int.ofNat_le.mpr hm, q⟩)
theorem TI.seqV {e : CE} {v : V} {b : Bool} {l : List V} {Q : List V -> List O -> Prop} (h : pv W k σ ρ e [] tape = some (v, cs, [])) (hc : AllP cs) (hs : Mine.seqV σ v = some (b, l)) (hn : notLive v = true) (hl : l.length <= 16777216) (q : Q l σ) : TI W k e ρ σ Q :=
  TI.seq (TE.ev h hc ⟨b, l, hs, hn, hl, q⟩)
theorem TS.forR (hW : WOk W) {i : Nat} {e : CE} {b : List CS} {m : Nat} (h : pv W k σ ρ e [] tape = some (.d (.int (m : Int)), cs, [])) (hc : AllP cs) (hm : m <= 16777216)
    (Inv : Nat -> List (Option V) -> List O -> Prop) (h0 : Inv 0 ρ σ) (turn : ∀ j ρ₁ σ₁, j < m -> Inv j ρ₁ σ₁ -> TS W k b (ρ₁.set i (some (.d (.int (j : Int))))) σ₁ (lp Inv j Q)) (fin : ∀ ρ₁ σ₁, Inv m ρ₁ σ₁ -> TS W k ss ρ₁ σ₁ Q) : TS W k (.for1 i (.prim "range" [e]) b :: ss) ρ σ Q :=
  TS.cons (TS1.for1 (TI.rangeV hW h hc hm ⟨Inv, h0, fun n x ρ₁ σ₁ hx hi => by
    obtain ⟨hn, rfl⟩ := c0d hx
    exact (turn n ρ₁ σ₁ hn hi).mono fun o a b h => by cases o with | next => exact h | ret v => exact h, fun ρ₁ σ₁ hi => fin ρ₁ σ₁ (by rw [List.length_map, List.length_range, Int.toNat_natCast] at hi; exact hi)⟩))
theorem TS.forS {i : Nat} {e : CE} {b : List CS} {v : V} {c : Bool} {l : List V} (h : pv W k σ ρ e [] tape = some (v, cs, [])) (hc : AllP cs) (hs : Mine.seqV σ v = some (c, l)) (hn : notLive v = true) (hl : l.length <= 16777216)
    (Inv : Nat -> List (Option V) -> List O -> Prop) (h0 : Inv 0 ρ σ) (turn : ∀ j x ρ₁ σ₁, l[j]? = some x -> Inv j ρ₁ σ₁ -> TS W k b (ρ₁.set i (some x)) σ₁ (lp Inv j Q)) (fin : ∀ ρ₁ σ₁, Inv l.length ρ₁ σ₁ -> TS W k ss ρ₁ σ₁ Q) : TS W k (.for1 i e b :: ss) ρ σ Q :=
  TS.cons (TS1.for1 (TI.seqV h hc hs hn hl ⟨Inv, h0, fun n x ρ₁ σ₁ hx hi => (turn n x ρ₁ σ₁ hx hi).mono fun o a b h => by cases o with | next => exact h | ret v => exact h, fin⟩))
theorem TS.putV {a i e : CE} {va vi ve : V} {tape2 tape3 : List D} {cs2 cs3 : List Prop} {σ' : List O} (h : pv W k σ ρ e [] tape = some (ve, cs, [])) (hc : AllP cs) (h2 : pv W k σ ρ a [] tape2 = some (va, cs2, [])) (hc2 : AllP cs2) (h3 : pv W k σ ρ i [] tape3 = some (vi, cs3, [])) (hc3 : AllP cs3)
    (hp : PutV σ va vi ve σ') (t : TS W k ss ρ σ' Q) (hn : a1v e = true := by rfl) : TS W k (.asgS a i e :: ss) ρ σ Q :=
  TS.cons (TS1.asgS (TE.ev h hc (TE.ev h2 hc2 (TE.ev h3 hc3 ⟨σ', hp, t⟩))) hn)
theorem TS.appV {i j : Nat} {e : CE} {x : D} {l : List D} (hx : ρ[i]? = some (some (.r j))) (hl : σ[j]? = some (.lst l)) (hz : l.length <= 16777216) (h : pv W k σ ρ e [] tape = some (.d x, cs, [])) (hc : AllP cs) (t : TS W k ss ρ (σ.set j (.lst (l ++ [x]))) Q) : TS W k (.ex (.meth (.var i) "append" [e]) :: ss) ρ σ Q :=
  TS.cons (TS1.ex (TE.append hx ⟨l, hl⟩ (TE.ev h hc ⟨x, l, rfl, hl, hz, t⟩)))
theorem c8t {f : Nat -> D} {g : V -> Option D} (m : Nat) (h : ∀ j, j < m -> g (.d (.int (j : Int))) = some (f j)) : ((List.range (m : Int).toNat).map fun (i : Nat) => V.d (.int (i : Int))).filterMap g = (List.range m).map f := by
  erw [Int.toNat_natCast, List.filterMap_map]
  have : ∀ l : List Nat, (∀ j ∈ l, j < m) -> l.filterMap (g ∘ fun (i : Nat) => V.d (.int (i : Int))) = l.map f := by
    intro l hl
    induction l with
    | nil => rfl
    | cons a l ih => erw [List.filterMap_cons, Function.comp_apply, h a (hl a (.head _)), ih fun j hj => hl j (.tail _ hj)]; rfl
  exact this _ fun j hj => List.mem_range.mp hj
noncomputable def vInt : V -> Nat
  | .d (.int i) => i.toNat
  | _ => 0
theorem TI.compR (hW : WOk W) {elt e : CE} {m : Nat} (f : Nat -> D) (h : pv W k σ ρ e [] tape = some (.d (.int (m : Int)), cs, [])) (hc : AllP cs) (hm : m <= 16777216) (t : ∀ j, j < m -> TEq W k elt (ρ ++ [some (.d (.int (j : Int)))]) σ (f j)) {QQ : List D -> List O -> Prop} (q : QQ ((List.range m).map f) σ) :
    TI W k (.prim "range" [e]) ρ σ fun l σ₁ => ∃ g : V -> Option D, (∀ x ∈ l, b0u W k elt none ρ σ₁ true 1 x fun y => y = g x) /\ QQ (l.filterMap g) σ₁ :=
  TI.rangeV hW h hc hm ⟨fun v => some (f (vInt v)), fun x hx => by
    obtain ⟨j, hj, rfl⟩ := List.mem_map.mp hx
    rw [Int.toNat_natCast] at hj
    exact ⟨_, rfl, (t j (List.mem_range.mp hj)).to ⟨rfl, _, rfl, by show some (f j) = some (f (Int.toNat j)); erw [Int.toNat_natCast]⟩⟩,
    by rw [c8t m fun j ζ => by show some (f (Int.toNat j)) = some (f j); erw [Int.toNat_natCast]]; exact q⟩
theorem TEq.compR (hW : WOk W) {elt e : CE} {m : Nat} (f : Nat -> D) (h : pv W k σ ρ e [] tape = some (.d (.int (m : Int)), cs, [])) (hc : AllP cs) (hm : m <= 16777216) (t : ∀ j, j < m -> TEq W k elt (ρ ++ [some (.d (.int (j : Int)))]) σ (f j)) :
    TEq W k (.comp elt 1 true (.prim "range" [e]) none) ρ σ (.lst ((List.range m).map f)) :=
  TE.comp (TI.compR hW f h hc hm t (QQ := fun l σ₁ => V.d (.lst l) = V.d (.lst ((List.range m).map f)) /\ σ₁ = σ) ⟨rfl, rfl⟩)
theorem TS.asgCR (hW : WOk W) {i : Nat} {elt e : CE} {m : Nat} (f : Nat -> D) (h : pv W k σ ρ e [] tape = some (.d (.int (m : Int)), cs, [])) (hc : AllP cs) (hm : m <= 16777216) (t : ∀ j, j < m -> TEq W k elt (ρ ++ [some (.d (.int (j : Int)))]) σ (f j))
    (q : TS W k ss (ρ.set i (some (.d (.lst ((List.range m).map f))))) σ Q) : TS W k (.asg i (.comp elt 1 true (.prim "range" [e]) none) :: ss) ρ σ Q :=
  TS.cons (TS1.asgC (TI.compR hW f h hc hm t (QQ := fun l σ₁ => TS W k ss (ρ.set i (some (.d (.lst l)))) σ₁ Q) q))
theorem TEq.tuple (hW : WOk W) {e : CE} {l : List D} (t : TEq W k e ρ σ (.lst l)) (hl : l.length <= 16777216) : TEq W k (.prim "tuple" [e]) ρ σ (.tup l) :=
  TE.tuple1 hW (t.to ⟨l, .inl rfl, hl, rfl, rfl⟩)
theorem TEq.len (hW : WOk W) {e : CE} {v : V} {x : D} {n : Nat} (h : pv W k σ ρ e [] tape = some (v, cs, [])) (hc : AllP cs) (hv : a0i σ v = some x) (hl : lenD x = some n) (hz : n <= 16777216) : TEq W k (.prim "len" [e]) ρ σ (.int (n : Int)) :=
  TE.len hW (TE.ev h hc ⟨x, n, hv, hl, hz, rfl, rfl⟩)
theorem TEq.isi (hW : WOk W) {e : CE} {v : V} {x : D} {c : String} {b : Bool} (h : pv W k σ ρ e [] tape = some (v, cs, [])) (hc : AllP cs) (hv : a0i σ v = some x) (hi : IsiD x c b) : TEq W k (.isi e c) ρ σ (.bool b) :=
  TE.isi hW (TE.ev h hc ⟨x, b, hv, hi, rfl, rfl⟩)
end
end Mine
end
section
open PySem PyProof.Rows
namespace Mine
section
variable {W : World0} {k : Nat} {σ : List O} {ρ : List (Option V)} {tape : List D} {cs : List Prop} {Q : Out -> List (Option V) -> List O -> Prop} {ss : List CS}
theorem TS.iteT {c : CE} {s t : List CS} {b : Bool} (h : pv W k σ ρ c [] tape = some (.d (.bool b), cs, [])) (hc : AllP cs) (hb : b = true) (ht : TS W k s ρ σ (thn W k ss Q)) : TS W k (.ite c s t :: ss) ρ σ Q :=
  TS.iteV h hc (fun ζ => ht) fun e => ff (e.symm.trans hb)
theorem TS.iteF {c : CE} {s t : List CS} {b : Bool} (h : pv W k σ ρ c [] tape = some (.d (.bool b), cs, [])) (hc : AllP cs) (hb : b = false) (ht : TS W k t ρ σ (thn W k ss Q)) : TS W k (.ite c s t :: ss) ρ σ Q :=
  TS.iteV h hc (fun e => ff (hb.symm.trans e)) fun ζ => ht
theorem TS.ifF {c : CE} {s : List CS} {b : Bool} (h : pv W k σ ρ c [] tape = some (.d (.bool b), cs, [])) (hc : AllP cs) (hb : b = false) (ht : TS W k ss ρ σ Q) : TS W k (.ite c s [] :: ss) ρ σ Q :=
  TS.iteF h hc hb (TS.nil ht)
theorem TI.compS {elt e : CE} {v : V} {b : Bool} {l : List D} (f : D -> D) (h : pv W k σ ρ e [] tape = some (v, cs, [])) (hc : AllP cs) (hs : Mine.seqV σ v = some (b, l.map V.d)) (hn : notLive v = true) (hl : l.length <= 16777216) (t : ∀ x ∈ l, TEq W k elt (ρ ++ [some (.d x)]) σ (f x)) {QQ : List D -> List O -> Prop} (q : QQ (l.map f) σ) :
    TI W k e ρ σ fun l σ₁ => ∃ g : V -> Option D, (∀ x ∈ l, b0u W k elt none ρ σ₁ true 1 x fun y => y = g x) /\ QQ (l.filterMap g) σ₁ :=
  TI.seqV h hc hs hn (by erw [List.length_map]; exact hl) ⟨fun v => match v with | .d x => some (f x) | _ => none, fun x hx => by
    obtain ⟨j, hj, rfl⟩ := List.mem_map.mp hx
    exact ⟨_, rfl, (t j hj).to ⟨rfl, _, rfl, rfl⟩⟩, by
    erw [List.filterMap_map]
    exact (List.filterMap_eq_map (f := f)).symm ▸ q⟩
theorem TEq.compS {elt e : CE} {v : V} {b : Bool} {l : List D} (f : D -> D) (h : pv W k σ ρ e [] tape = some (v, cs, [])) (hc : AllP cs) (hs : Mine.seqV σ v = some (b, l.map V.d)) (hn : notLive v = true) (hl : l.length <= 16777216) (t : ∀ x ∈ l, TEq W k elt (ρ ++ [some (.d x)]) σ (f x)) :
    TEq W k (.comp elt 1 true e none) ρ σ (.lst (l.map f)) :=
  TE.comp (TI.compS f h hc hs hn hl t (QQ := fun l' σ₁ => V.d (.lst l') = V.d (.lst (l.map f)) /\ σ₁ = σ) ⟨rfl, rfl⟩)
theorem a8t {f : D -> D} {p : D -> Bool} : ∀ l : List D, (l.map V.d).filterMap (fun v => match v with | .d x => (match p x with | true => some (f x) | false => none) | _ => none) = (l.filter p).map f
  | [] => rfl
  | x :: l => by
    erw [List.map_cons, List.filterMap_cons, List.filter_cons]
    cases e : p x with
    | true => simp only [e]; erw [a8t l]; rfl
    | false => simp only [e]; exact a8t l
theorem TI.compF {elt e c : CE} {v : V} {b : Bool} {l : List D} (p : D -> Bool) (f : D -> D) (h : pv W k σ ρ e [] tape = some (v, cs, [])) (hc : AllP cs) (hs : Mine.seqV σ v = some (b, l.map V.d)) (hn : notLive v = true) (hl : l.length <= 16777216) (tc : ∀ x ∈ l, TCv W k c (ρ ++ [some (.d x)]) σ (p x)) (t : ∀ x ∈ l, p x = true -> TEq W k elt (ρ ++ [some (.d x)]) σ (f x)) {QQ : List D -> List O -> Prop} (q : QQ ((l.filter p).map f) σ) :
    TI W k e ρ σ fun l σ₁ => ∃ g : V -> Option D, (∀ x ∈ l, b0u W k elt (some c) ρ σ₁ true 1 x fun y => y = g x) /\ QQ (l.filterMap g) σ₁ :=
  TI.seqV h hc hs hn (by erw [List.length_map]; exact hl) ⟨fun v => match v with | .d x => (match p x with | true => some (f x) | false => none) | _ => none, fun x hx => by
    obtain ⟨j, hj, rfl⟩ := List.mem_map.mp hx
    refine ⟨_, rfl, (tc j hj).to ⟨rfl, ?_⟩⟩
    cases e : p j with
    | true => exact (t j hj e).to ⟨rfl, _, rfl, by simp only [e]⟩
    | false => simp only [e]; trivial, by erw [a8t]; exact q⟩
theorem TEq.compF {elt e c : CE} {v : V} {b : Bool} {l : List D} (p : D -> Bool) (f : D -> D) (h : pv W k σ ρ e [] tape = some (v, cs, [])) (hc : AllP cs) (hs : Mine.seqV σ v = some (b, l.map V.d)) (hn : notLive v = true) (hl : l.length <= 16777216) (tc : ∀ x ∈ l, TCv W k c (ρ ++ [some (.d x)]) σ (p x)) (t : ∀ x ∈ l, p x = true -> TEq W k elt (ρ ++ [some (.d x)]) σ (f x)) :
    TEq W k (.comp elt 1 true e (some c)) ρ σ (.lst ((l.filter p).map f)) :=
  TE.comp (TI.compF p f h hc hs hn hl tc t (QQ := fun l' σ₁ => V.d (.lst l') = V.d (.lst ((l.filter p).map f)) /\ σ₁ = σ) ⟨rfl, rfl⟩)
theorem TCv.ev {e : CE} {b : Bool} (h : pv W k σ ρ e [] tape = some (.d (.bool b), cs, [])) (hc : AllP cs) : TCv W k e ρ σ b := TC.ev h hc ⟨rfl, rfl⟩
theorem TEq.all (hW : WOk W) {e : CE} {bs : List Bool} (t : TEq W k e ρ σ (.lst (bs.map .bool))) : TEq W k (.prim "all" [e]) ρ σ (.bool (bs.all id)) := TE.all1 hW (t.to ⟨bs, rfl, rfl, rfl⟩)
theorem TEq.gc {c : String} {i : Int} (h : HasC W c i) : TEq W k (.gv c) ρ σ (.int i) := TE.gc h ⟨rfl, rfl⟩
theorem Spec.cast {f : String} {args : List V} {r r' : D} (s : Spec W k f args r) (h : r = r') : Spec W k f args r' := h ▸ s
end
end Mine
end
section
open PySem PyProof.Rows
namespace Mine
section
variable {W : World0} {k : Nat} {σ : List O} {ρ : List (Option V)} {tape : List D} {cs : List Prop} {Q : Out -> List (Option V) -> List O -> Prop} {ss : List CS}
theorem TEv.ev {e : CE} {v : V} (h : pv W k σ ρ e [] tape = some (v, cs, [])) (hc : AllP cs) : TEv W k e ρ σ v := TE.ev h hc ⟨rfl, rfl⟩
theorem TS.iteC {c : CE} {s t : List CS} {b : Bool} (h : TCv W k c ρ σ b) (ht : b = true -> TS W k s ρ σ (thn W k ss Q)) (hf : b = false -> TS W k t ρ σ (thn W k ss Q)) : TS W k (.ite c s t :: ss) ρ σ Q :=
  TS.cons (TS1.ite (h.to (by cases b with | true => exact ht rfl | false => exact hf rfl)))
theorem TS.asgL {i : Nat} {es : List CE} {vs : List V} {l : List D} (h : pvs W k σ ρ es [] tape = some (vs, cs, [])) (hc : AllP cs) (hd : dsOf vs = some l) (hl : l.length <= 16777216) (t : TS W k ss (ρ.set i (some (.r σ.length))) (σ ++ [.lst l]) Q) : TS W k (.asg i (.lst es) :: ss) ρ σ Q :=
  TS.cons (TS1.asg (TE.lstR ((a8s es h hc).2.to ⟨l, a8r hd, hl, t⟩)))
end
end Mine
end
section
open PySem PyProof.Rows
namespace Mine
noncomputable def RT (W : World0) (k : Nat) (ss : List CS) (ρ : List (Option V)) (σ : List O) (r : D) : Prop := ∀ Q : Out -> List (Option V) -> List O -> Prop, (∀ v ρ' σ', ownD σ' v = some r -> Q (.ret v) ρ' σ') -> TS W k ss ρ σ Q
noncomputable def ET (W : World0) (k : Nat) (ss : List CS) (ρ : List (Option V)) (σ : List O) (P : D -> Prop) : Prop := ∃ r, P r /\ RT W k ss ρ σ r
noncomputable def ESpec (W : World0) (k : Nat) (f : String) (args : List V) (P : D -> Prop) : Prop := ∃ r, P r /\ Spec W k f args r
section
variable {W : World0} {k : Nat} {σ : List O} {ρ : List (Option V)} {tape : List D} {cs : List Prop} {ss : List CS} {P : D -> Prop}
theorem ESpec.intro {f : String} {cf : CF} {args : List V} (hf : HasF W f cf) (hlen : args.length = cf.nparams) (t : ET W k cf.body (args.map some ++ List.replicate (cf.nvars - cf.nparams) none) [] P) : ESpec W (k + 1) f args P := by
  obtain ⟨r, hp, t⟩ := t
  exact ⟨r, hp, Spec.intro hf hlen (t _ fun v ρ' σ' h => h)⟩
theorem ET.ret {e : CE} {x : D} (h : pv W k σ ρ e [] tape = some (.d x, cs, [])) (hc : AllP cs) (hp : P x) : ET W k (.ret e :: ss) ρ σ P := ⟨x, hp, fun Q q => TS.retV h hc (q _ _ _ rfl)⟩
theorem ET.ifV {c : CE} {s : List CS} {b : Bool} (h : pv W k σ ρ c [] tape = some (.d (.bool b), cs, [])) (hc : AllP cs) (ht : b = true -> ET W k s ρ σ P) (hf : b = false -> ET W k ss ρ σ P) : ET W k (.ite c s [] :: ss) ρ σ P := by
  cases b with
  | true =>
    obtain ⟨r, hp, t⟩ := ht rfl
    exact ⟨r, hp, fun Q q => TS.iteT h hc rfl (t _ fun v ρ' σ' h => q v ρ' σ' h)⟩
  | false =>
    obtain ⟨r, hp, t⟩ := hf rfl
    exact ⟨r, hp, fun Q q => TS.ifF h hc rfl (t Q q)⟩
theorem ET.asg {i : Nat} {e : CE} {v : V} (h : pv W k σ ρ e [] tape = some (v, cs, [])) (hc : AllP cs) (t : ET W k ss (ρ.set i (some v)) σ P) (hn : a1v e = true := by rfl) : ET W k (.asg i e :: ss) ρ σ P := by
  obtain ⟨r, hp, t⟩ := t
  exact ⟨r, hp, fun Q q => TS.asgV h hc (t Q q) hn⟩
theorem ET.asgCR (hW : WOk W) {i : Nat} {elt e : CE} {m : Nat} (f : Nat -> D) (h : pv W k σ ρ e [] tape = some (.d (.int (m : Int)), cs, [])) (hc : AllP cs) (hm : m <= 16777216) (t : ∀ j, j < m -> TEq W k elt (ρ ++ [some (.d (.int (j : Int)))]) σ (f j))
    (q : ET W k ss (ρ.set i (some (.d (.lst ((List.range m).map f))))) σ P) : ET W k (.asg i (.comp elt 1 true (.prim "range" [e]) none) :: ss) ρ σ P := by
  obtain ⟨r, hp, q⟩ := q
  exact ⟨r, hp, fun Q qq => TS.asgCR hW f h hc hm t (q Q qq)⟩
theorem ET.asgT {is : List Nat} {e : CE} {v : V} {l : List V} (h : pv W k σ ρ e [] tape = some (v, cs, [])) (hc : AllP cs) (hl : seqV σ v = some (false, l)) (hn : l.length = is.length) (t : ET W k ss (a3r ρ is l) σ P) (hk : b6e e = true := by rfl) : ET W k (.asgT is e :: ss) ρ σ P := by
  obtain ⟨r, hp, t⟩ := t
  exact ⟨r, hp, fun Q q => TS.asgTV h hc hl hn (t Q q) hk⟩
end
end Mine
end
section
open PySem PyProof.Rows
namespace Mine
section
variable {W : World0} {k : Nat}
structure HasR (W : World0) : Prop where
  ok : WOk W
  rows_of : HasF W "rows_of" F_rows_of
  is_among : HasF W "is_among" F_is_among
  is_rule : HasF W "is_rule" F_is_rule
  need_rule : HasF W "need_rule" F_need_rule
  c1 : HasC W "MOST_SIGNS" 4
  c2 : HasC W "MOST_WIDE" 4
  c3 : HasC W "MOST_ROWS" 16
structure HasS (W : World0) : Prop where
  R : HasR W
  many_ends : HasF W "many_ends" F_many_ends
  told_by : HasF W "told_by" F_told_by
  onward : HasF W "onward" F_onward
theorem lt64 {s : Nat} (h : s <= 1000) : -(2 ^ 64) < (s : Int) /\ (s : Int) < 2 ^ 64 := ⟨Int.lt_of_lt_of_le (by decide) (Int.natCast_nonneg s), Int.lt_of_le_of_lt (Int.ofNat_le.mpr h) (by decide)⟩
theorem a1k {m : Nat} (h : m <= 1000) : m <= 16777216 := Nat.le_trans h (by decide)
theorem a7e (H : HasR W) {s w : Nat} (hs : s <= 1000) (hw : w <= 1000) : Spec W (k + 1) "rows_of" [.d (.int s), .d (.int w)] (.int ((s ^ w : Nat) : Int)) :=
  Spec.intro H.rows_of rfl (TS.asgV rfl trivial (TS.forR H.ok rfl trivial (a1k hw)
    (fun n ρ σ => ∃ x, ρ = [some (.d (.int s)), some (.d (.int w)), some (.d (.int ((s ^ n : Nat) : Int))), x] /\ σ = []) ⟨none, rfl, rfl⟩
    (fun j _ _ hj ⟨x, h1, h2⟩ => by subst h1 h2; exact TS.asgV rfl ⟨.inr (lt64 hs), trivial⟩ (TS.nil ⟨_, rfl, rfl⟩))
    (fun _ _ ⟨x, h1, h2⟩ => by subst h1 h2; exact TS.retV rfl trivial rfl)))
theorem a6h (H : HasR W) (x lo hi : Int) : Spec W (k + 1) "is_among" [.d (.int x), .d (.int lo), .d (.int hi)] (.bool (decide (lo <= x) && decide (x <= hi))) :=
  Spec.intro H.is_among rfl (TS.cons (TS1.ret (TE.and (TE.isi H.ok (TE.var rfl ⟨_, _, rfl, .intInt x, true, rfl, TE.and (TE.not (TE.isi H.ok (TE.var rfl ⟨_, _, rfl, .intBool x, false, rfl, true, rfl, TE.and1 (TE.cmp2 (TE.var rfl (TE.var rfl ⟨_, .le rfl rfl, by
    cases decide (lo <= x) with
    | true => exact TE.var rfl ⟨_, .le rfl rfl, rfl⟩
    | false => rfl⟩)))⟩)))⟩)))))
noncomputable def a0a (l : List Nat) : List D := l.map fun (x : Nat) => .int (x : Int)
noncomputable def a0k (s w : Nat) (t : List Nat) : D := .tup [.int s, .int w, .tup (a0a t)]
structure OkR (s w : Nat) (t : List Nat) : Prop where
  s2 : 2 <= s
  s4 : s <= 4
  w1 : 1 <= w
  w4 : w <= 4
  rows : s ^ w <= 16
  len : t.length = s ^ w
  sign : ∀ x ∈ t, x < s
theorem OkR.s1000 {s w : Nat} {t : List Nat} (R : OkR s w t) : s <= 1000 := Nat.le_trans R.s4 (by decide)
theorem OkR.w1000 {s w : Nat} {t : List Nat} (R : OkR s w t) : w <= 1000 := Nat.le_trans R.w4 (by decide)
theorem OkR.pos {s w : Nat} {t : List Nat} (R : OkR s w t) : 0 < s ^ (w - 1) := Nat.pow_pos (Nat.lt_of_lt_of_le (by decide) R.s2)
theorem OkR.eq {s w : Nat} {t : List Nat} (R : OkR s w t) : s ^ w = s ^ (w - 1) * s := by
  have h := R.w1
  cases w with
  | zero => cases h
  | succ v => rfl
theorem OkR.n8 {s w : Nat} {t : List Nat} (R : OkR s w t) : s ^ (w - 1) <= 8 := by
  have h := R.rows
  rw [R.eq] at h
  have h2 : s ^ (w - 1) * 2 <= s ^ (w - 1) * s := Nat.mul_le_mul_left _ R.s2
  exact Nat.le_of_mul_le_mul_right (Nat.le_trans h2 h : _ <= 8 * 2) (by decide)
theorem a0n {σ : List O} {v : V} {b : Bool} {l : List D} {n : Nat} {x : D} (hv : seqV σ v = some (b, l.map V.d)) (hl : l.length <= 16777216) (hx : l[n]? = some x) : SubV σ v (.d (.int (n : Int))) (.d x) := by
  have hlt : n < l.length := (List.getElem?_eq_some_iff.mp hx).1
  have hn : (n : Int) < 16777216 := Int.ofNat_lt.mpr (Nat.lt_of_lt_of_le hlt hl)
  refine .seq hv rfl (j := n) ?_ (by erw [List.getElem?_map, hx]; rfl) ⟨Int.le_trans (by decide) (Int.natCast_nonneg n), Int.lt_trans hn (by decide)⟩
  unfold seqIndex?
  erw [List.length_map, if_neg (Int.not_lt.mpr (Int.natCast_nonneg n)), if_pos (by rw [Bool.and_eq_true, decide_eq_true_eq, decide_eq_true_eq]; exact ⟨Int.natCast_nonneg n, Int.ofNat_lt.mpr hlt⟩), Int.toNat_natCast]
theorem a6i {w : Nat} (h : 1 <= w) : ((w : Int) - 1) = ((w - 1 : Nat) : Int) := (Int.ofNat_sub h).symm
theorem a1m (H : HasS W) {s w : Nat} {t : List Nat} (R : OkR s w t) : Spec W (k + 2) "many_ends" [.d (a0k s w t)] (.int ((s ^ (w - 1) : Nat) : Int)) :=
  Spec.intro H.many_ends rfl (TS.retV (tape := [.int ((s ^ (w - 1) : Nat) : Int)]) rfl ⟨a6i R.w1 ▸ a7e H.R R.s1000 (Nat.le_trans (Nat.sub_le _ _) R.w1000), trivial⟩ rfl)
theorem a0b (l : List Nat) : (a0a l).length = l.length := List.length_map _
theorem a2l {l : List Nat} {n x : Nat} (h : l[n]? = some x) : (a0a l)[n]? = some (.int (x : Int)) := by unfold a0a; erw [List.getElem?_map, h]; rfl
theorem OkR.len16 {s w : Nat} {t : List Nat} (R : OkR s w t) : (a0a t).length <= 16777216 := by erw [a0b, R.len]; exact Nat.le_trans R.rows (by decide)
theorem a4k (H : HasS W) {s w : Nat} {t : List Nat} (R : OkR s w t) {e a x : Nat} (hx : t[e * s + a]? = some x) : Spec W (k + 1) "told_by" [.d (a0k s w t), .d (.int e), .d (.int a)] (.int x) :=
  Spec.intro H.told_by rfl (TS.retV (tape := [.int x]) rfl ⟨a0n (n := e * s + a) rfl R.len16 (a2l hx), .inr (lt64 R.s1000), trivial⟩ rfl)
theorem beqN {a b : Nat} (h : ((a : Int) == (b : Int)) = true) : a = b := Int.ofNat.inj (eq_of_beq h)
theorem bneN {a b : Nat} (h : ((a : Int) == (b : Int)) = false) : a ≠ b := fun e => by subst e; rw [beq_self_eq_true] at h; exact dTF h
theorem a2m {n : Nat} (h : 0 < n) : (n : Int) ≠ 0 := fun e => Nat.ne_of_gt h (Int.ofNat.inj e)
theorem a3u (a b : Nat) : (a : Int).fmod b = ((a % b : Nat) : Int) := Int.ofNat_fmod a b ▸ rfl
theorem a3v (H : HasS W) {s w : Nat} {t : List Nat} (R : OkR s w t) (e a : Nat) : Spec W (k + 3) "onward" [.d (a0k s w t), .d (.int e), .d (.int a)] (.int (((e * s + a) % s ^ (w - 1) : Nat) : Int)) :=
  Spec.intro H.onward rfl (TS.retV (tape := [.int ((s ^ (w - 1) : Nat) : Int)]) rfl ⟨a2m R.pos, a1m H R, .inr (lt64 R.s1000), trivial⟩ (congrArg (fun z => some (D.int z)) (a3u (e * s + a) (s ^ (w - 1)))))
end
end Mine
end
section
open PySem PyProof.Rows
namespace Mine
section
variable {W : World0} {k : Nat}
theorem a2p (H : HasR W) {x lo hi : Int} (h1 : lo <= x) (h2 : x <= hi) : Spec W (k + 1) "is_among" [.d (.int x), .d (.int lo), .d (.int hi)] (.bool true) :=
  (a6h H x lo hi).cast (by erw [decide_eq_true h1, decide_eq_true h2]; rfl)
theorem c4g (l : List D) : l.map (fun ζ => D.bool true) = (l.map fun ζ => true).map D.bool := by erw [List.map_map]; rfl
theorem c0f (l : List D) : (l.map fun ζ => true).all id = true := by erw [List.all_map]; exact List.all_eq_true.mpr fun ζ ζ => rfl
theorem b2s (H : HasR W) {e : CE} {ρ : List (Option V)} {σ : List O} {v : V} {b : Bool} {l : List D} {cs : List Prop} (h : pv W (k + 1) σ ρ e [] [] = some (v, cs, [])) (hc : AllP cs) (hs : seqV σ v = some (b, l.map V.d)) (hn : notLive v = true) (hl : l.length <= 16777216) {elt : CE}
    (t : ∀ x ∈ l, TEq W (k + 1) elt (ρ ++ [some (.d x)]) σ (.bool true)) : TEq W (k + 1) (.prim "all" [.comp elt 1 true e none]) ρ σ (.bool true) := by
  have := TEq.all H.ok (bs := l.map fun ζ => true) (c4g l ▸ TEq.compS (fun ζ => .bool true) h hc hs hn hl t)
  rwa [c0f] at this
theorem c0g {a s : Nat} (h : a < s) : (a : Int) <= (s : Int) - 1 := Int.le_sub_one_of_lt (Int.ofNat_lt.mpr h)
theorem OkR.okRows {s w : Nat} {t : List Nat} (R : OkR s w t) : (decide ((16 : Int) < ((s ^ w : Nat) : Int)) || (!true || !(((a0a t).length : Int) == ((s ^ w : Nat) : Int)))) = false := by
  erw [a0b, R.len, beq_self_eq_true, decide_eq_false (Int.not_lt.mpr (show ((s ^ w : Nat) : Int) <= 16 from Int.ofNat_le.mpr R.rows))]; rfl
theorem b2t (H : HasR W) {s w : Nat} {t : List Nat} (R : OkR s w t) : Spec W (k + 2) "is_rule" [.d (a0k s w t)] (.bool true) :=
  Spec.intro H.is_rule rfl
    (TS.ifF (tape := [.bool true, .int ((3 : Nat) : Int)]) rfl ⟨TEq.len H.ok rfl trivial rfl rfl (by decide), TEq.isi H.ok rfl trivial rfl (.tup _), trivial⟩ rfl
    (TS.ifF (tape := [.int 4, .bool true, .int 4, .bool true]) rfl ⟨a2p H (Int.ofNat_le.mpr R.w1) (Int.ofNat_le.mpr R.w4), TEq.gc H.c2, a2p H (Int.ofNat_le.mpr R.s2) (Int.ofNat_le.mpr R.s4), TEq.gc H.c1, trivial⟩ rfl
    (TS.asgV (tape := [.int ((s ^ w : Nat) : Int)]) rfl ⟨a7e H R.s1000 R.w1000, trivial⟩
    (TS.ifF (tape := [.int 16, .bool true, .int ((a0a t).length : Int)]) rfl ⟨TEq.len H.ok rfl trivial rfl rfl R.len16, TEq.isi H.ok rfl trivial rfl (.tup _), TEq.gc H.c3, trivial⟩ R.okRows
    (TS.retV (tape := [.bool true]) rfl ⟨b2s (cs := []) H rfl trivial rfl rfl R.len16 (fun x hx => by
      obtain ⟨a, ha, rfl⟩ := List.mem_map.mp hx
      exact TEq.ev (tape := [.bool true]) rfl ⟨a2p H (Int.natCast_nonneg a) (c0g (R.sign a ha)), trivial⟩), trivial⟩ rfl)))))
theorem a1b (H : HasR W) {s w : Nat} {t : List Nat} (R : OkR s w t) : Spec W (k + 3) "need_rule" [.d (a0k s w t)] .none :=
  Spec.intro H.need_rule rfl (TS.ifF (tape := [.bool true]) rfl ⟨b2t H R, trivial⟩ rfl (TS.nil rfl))
end
end Mine
end
section
open PySem PyProof.Rows
namespace Mine
theorem b0y {K α : Type} [DecidableEq K] : ∀ (l : List (K × α)) (k : K), (lk l k).isSome = true ↔ k ∈ l.map (·.1)
  | [], k => by simp [lk]
  | (k', x) :: l, k => by
    unfold lk
    by_cases h : k = k'
    . simp [h]
    . simp only [h, if_false, List.map_cons, List.mem_cons, false_or]; exact b0y l k
theorem b6k {K α : Type} [DecidableEq K] (l : List (K × α)) (k : K) (x : α) : (put l k x).map (·.1) = if k ∈ l.map (·.1) then l.map (·.1) else l.map (·.1) ++ [k] := by
  unfold put
  by_cases h : (lk l k).isSome = true
  . erw [if_pos h, if_pos ((b0y l k).mp h), List.map_map]
    refine List.map_congr_left fun a ζ => ?_
    simp only [Function.comp_apply]
    split <;> rfl
  . erw [if_neg h, if_neg (fun hm => h ((b0y l k).mpr hm))]
    simp
set_option tactic.hygienic true in
theorem b2u {K α : Type} [DecidableEq K] {l : List (K × α)} {k : K} {x : α} (h : (l.map (·.1)).Nodup) : ((put l k x).map (·.1)).Nodup := by
  rw [b6k]
  split
  . exact h
  . rename_i hn
    rw [List.nodup_append]
    exact ⟨h, by simp, fun a ha b hb => by simp only [List.mem_singleton] at hb; subst hb; exact fun e => hn (e ▸ ha)⟩
set_option tactic.hygienic true in
theorem c0h {K α : Type} [DecidableEq K] {l : List (K × α)} {k : K} {x : α} (z : K) : z ∈ (put l k x).map (·.1) ↔ z ∈ l.map (·.1) ∨ z = k := by
  rw [b6k]
  split
  . rename_i h
    exact ⟨.inl, fun h' => h'.elim id fun e => e ▸ h⟩
  . simp
noncomputable def hit (s N : Nat) (t : List Nat) (ends : List Nat) (told n : Nat) : Prop := ∃ e ∈ ends, ∃ a, a < s /\ t[e * s + a]? = some told /\ (e * s + a) % N = n
noncomputable def hitB (s N : Nat) (t : List Nat) (ends : List Nat) (told n : Nat) : Bool := ends.any fun e => (List.range s).any fun a => t[e * s + a]? == some told && (e * s + a) % N == n
theorem hitB_iff {s N : Nat} {t ends : List Nat} {told n : Nat} : hitB s N t ends told n = true ↔ hit s N t ends told n := by
  unfold hitB hit
  simp only [List.any_eq_true, List.mem_range, Bool.and_eq_true, beq_iff_eq]
noncomputable def a1n (s N : Nat) (t : List Nat) (ends : List Nat) (told : Nat) : List Nat := (List.range N).filter (hitB s N t ends told)
theorem a2e {s N : Nat} {t ends : List Nat} {told n : Nat} (hN : 0 < N) : n ∈ a1n s N t ends told ↔ hit s N t ends told n := by
  unfold a1n
  rw [List.mem_filter, hitB_iff, List.mem_range]
  exact ⟨fun h => h.2, fun h => ⟨by obtain ⟨e, _, a, _, _, rfl⟩ := h; exact Nat.mod_lt _ hN, h⟩⟩
theorem c0i {s N : Nat} {t ends : List Nat} {told n : Nat} (h : n ∈ a1n s N t ends told) : n < N := by
  unfold a1n at h
  rw [List.mem_filter, List.mem_range] at h
  exact h.1
theorem c0j {s N : Nat} {t ends : List Nat} {told : Nat} (hN : 0 < N) {ks : List Int} (nd : ks.Nodup) (hm : ∀ z : Int, z ∈ ks ↔ ∃ m : Nat, z = m /\ hit s N t ends told m) : a7n ks = (a1n s N t ends told).map fun (x : Nat) => (x : Int) := by
  have nd2 : ((a1n s N t ends told).map fun (x : Nat) => (x : Int)).Nodup := by
    refine List.Pairwise.map _ (fun a b h => ?_) (List.Pairwise.filter _ List.nodup_range)
    intro e; exact h (Int.ofNat.inj e)
  refine a3t ((a4x ks).trans ((List.perm_ext_iff_of_nodup nd nd2).mpr fun z => ?_)) (a5q ks) ?_
  . rw [hm, List.mem_map]
    exact ⟨fun ⟨m, e, h⟩ => ⟨m, (a2e hN).mpr h, e.symm⟩, fun ⟨m, h, e⟩ => ⟨m, e.symm, (a2e hN).mp h⟩⟩
  . refine List.Pairwise.map _ (fun a b h => ?_) (List.Pairwise.filter _ (List.pairwise_lt_range))
    have : a < b := h
    exact om23 h
theorem b6l {N : Nat} {ks : List Int} (nd : ks.Nodup) (h : ∀ z ∈ ks, ∃ m : Nat, z = m /\ m < N) : ks.length <= N := by
  have := List.Nodup.length_le_of_subset (l₂ := (List.range N).map fun (x : Nat) => (x : Int)) nd fun z hz => by
    refine xEA (h z hz) fun m e hm => ?_
    exact List.mem_map.mpr ⟨m, List.mem_range.mpr hm, e.symm⟩
  simpa using this
noncomputable def reach (s N : Nat) (t : List Nat) (word : List Nat) : List Nat := word.foldl (a1n s N t) (List.range N)
noncomputable def keyZ (e : List Nat) : List Int := e.map fun (x : Nat) => (x : Int)
theorem keyZ_D (e : List Nat) : (keyZ e).map D.int = a0a e := by simp [keyZ, a0a, Function.comp_def]
theorem a2f : ∀ l : List Nat, a1a (a0a l) = true
  | [] => rfl
  | a :: l => by show (a0y (.int a) && a1a (a0a l)) = true; erw [a2f l]; rfl
theorem a7w : ∀ l : List Nat, deps (a0a l) = 0
  | [] => rfl
  | a :: l => by show max (dep (.int a)) (deps (a0a l)) = 0; erw [a7w l]; rfl
theorem b7r (l : List Nat) : (a0a l).map b2k = (a0a l).map V.d := by
  induction l with
  | nil => rfl
  | cons a l ih => exact congrArg (V.d (.int a) :: ·) ih
theorem a2y : ∀ l : List Nat, nolists (a0a l) = true
  | [] => rfl
  | a :: l => by show (nolist (.int a) && nolists (a0a l)) = true; erw [a2y l]; rfl
theorem a3e {l : List Nat} {n : Nat} {x : V} (h : ((a0a l).map V.d)[n]? = some x) : ∃ a, l[n]? = some a /\ x = .d (.int (a : Int)) := by
  simp only [a0a, List.map_map, List.getElem?_map] at h
  cases e : l[n]? with
  | none => rw [e] at h; exact dNS h
  | some a => rw [e] at h; simp only [Option.map_some, Function.comp_apply, Option.some.injEq] at h; exact ⟨a, rfl, h.symm⟩
end Mine
end
section
open PySem PyProof.Rows
namespace Mine
structure OkS (s w : Nat) : Prop where
  s2 : 2 <= s
  s4 : s <= 4
  w1 : 1 <= w
  w4 : w <= 4
  rows : s ^ w <= 16
theorem fm0 (z : Int) {b : Nat} (hb : 0 < b) : 0 <= z.fmod (b : Int) := Int.fmod_nonneg_of_pos z (Int.ofNat_lt.mpr hb)
theorem fm1 (z : Int) {b : Nat} (hb : 0 < b) : z.fmod (b : Int) < b := Int.fmod_lt_of_pos z (Int.ofNat_lt.mpr hb)
theorem a6j (a b : Nat) : (a : Int).fdiv (b : Int) = ((a / b : Nat) : Int) := by
  erw [Int.fdiv_eq_ediv_of_nonneg _ (Int.natCast_nonneg b)]; rfl
theorem a1j (z : Int) {b : Nat} (hb : 0 < b) : ∃ m : Nat, m < b /\ z.fmod (b : Int) = (m : Int) := by
  obtain ⟨m, e⟩ := Int.eq_ofNat_of_zero_le (fm0 z hb)
  exact ⟨m, Int.ofNat_lt.mp (e ▸ fm1 z hb), e⟩
noncomputable def tabL (rows : Nat) (f : Nat -> Int) : List Nat := (List.range rows).map fun j => (f j).toNat
noncomputable def c0k (s rows : Nat) (r : D) : Prop := ∃ t : List Nat, t.length = rows /\ (∀ x ∈ t, x < s) /\ r = .tup (a0a t)
theorem tab_eq {rows : Nat} {f : Nat -> Int} (h : ∀ j, j < rows -> 0 <= f j) : (List.range rows).map (fun j => D.int (f j)) = a0a (tabL rows f) := by
  unfold a0a tabL
  erw [List.map_map]
  refine List.map_congr_left fun j hj => ?_
  show D.int (f j) = D.int ((f j).toNat : Int)
  erw [Int.toNat_of_nonneg (h j (List.mem_range.mp hj))]
theorem c0l {s rows : Nat} {f : Nat -> Int} (h : ∀ j, j < rows -> 0 <= f j /\ f j < s) : c0k s rows (.tup ((List.range rows).map fun j => D.int (f j))) := by
  refine ⟨tabL rows f, by unfold tabL; erw [List.length_map, List.length_range], fun x hx => ?_, by erw [tab_eq fun j hj => (h j hj).1]⟩
  obtain ⟨j, hj, rfl⟩ := List.mem_map.mp hx
  have := h j (List.mem_range.mp hj)
  exact Int.ofNat_lt.mp (by erw [Int.toNat_of_nonneg this.1]; exact this.2)
noncomputable def mixZ (c : Int) (k : Nat) : Int := (((c.fmod 1000000007 + 1) * 48271).fmod 2147483647 * (16807 + 7919 * (k : Int) * (k : Int) + 31 * (k : Int))).fmod 2147483629 |>.fdiv 7
theorem lt2 {u : Nat} (h : u < 2) : u = 0 ∨ u = 1 := (by decide : ∀ u, u < 2 -> (u = 0 ∨ u = 1)) u h
theorem lt8 {u : Nat} (h : u < 8) : u = 0 ∨ u = 1 ∨ u = 2 ∨ u = 3 ∨ u = 4 ∨ u = 5 ∨ u = 6 ∨ u = 7 := (by decide : ∀ u, u < 8 -> (u = 0 ∨ u = 1 ∨ u = 2 ∨ u = 3 ∨ u = 4 ∨ u = 5 ∨ u = 6 ∨ u = 7)) u h
theorem c8u (l : List Int) : (l.map D.int).map b2k = (l.map D.int).map V.d := by
  erw [List.map_map, List.map_map]; rfl
section
variable {W : World0} {k : Nat}
structure HasL (W : World0) : Prop where
  ok : WOk W
  cell_at : HasF W "_law_cell_at" b1t
  mixed : HasF W "_law_mixed" b8j
  random : HasF W "_law_random" b5p
  mending : HasF W "_law_mending" b1u
  between : HasF W "_law_between" b1v
  beside : HasF W "_law_beside" b5q
  turned : HasF W "_law_turned" b5r
  rule : HasF W "_law_rule" c5z
noncomputable def a1o (zs : List Int) (n : Nat) : Int := zs.getD n 0
theorem a4l (H : HasL W) {zs : List Int} {n : Nat} (hl : zs.length <= 1000) : Spec W (k + 1) "_law_cell_at" [.a (.lst (zs.map .int)), .d (.int n)] (.int (a1o zs n)) := by
  have hz : (zs.map D.int).length <= 16777216 := by erw [List.length_map]; exact a1k hl
  refine Spec.intro H.cell_at rfl (TS.ifV (tape := [.int ((zs.map D.int).length : Int)]) rfl ⟨TEq.len H.ok rfl trivial rfl rfl hz, trivial⟩ (fun h => ?_) fun h => TS.retV rfl trivial ?_)
  . rw [decide_eq_true_eq, Int.ofNat_lt, List.length_map] at h
    refine TS.retV (tape := [.int (a1o zs n)]) rfl ⟨a0n (b := true) (l := zs.map .int) (by erw [← c8u]; rfl) hz (by erw [List.getElem?_map, List.getElem?_eq_getElem h]; unfold a1o; erw [List.getD_eq_getElem?_getD, List.getElem?_eq_getElem h]; rfl), trivial⟩ rfl
  . rw [decide_eq_false_iff_not, Int.ofNat_lt, List.length_map] at h
    show some (D.int 0) = _
    unfold a1o
    erw [List.getD_eq_getElem?_getD, List.getElem?_eq_none (Nat.le_of_not_lt h)]; rfl
theorem a3n (H : HasL W) (c : Int) {n : Nat} (hn : n <= 1000) : Spec W (k + 1) "_law_mixed" [.d (.int c), .d (.int n)] (.int (mixZ c n)) :=
  Spec.intro H.mixed rfl (TS.asgV rfl ⟨by decide, .inr (by decide), by decide, trivial⟩ (TS.retV rfl ⟨by decide, by decide, .inl ⟨Int.lt_of_lt_of_le (by decide) (fm0 _ (b := 2147483647) (by decide)), Int.lt_trans (fm1 _ (b := 2147483647) (by decide)) (by decide)⟩, .inl (by decide), .inr (lt64 hn), .inl (by decide), trivial⟩ rfl))
theorem ET.tab (hW : WOk W) {ss : List CS} {σ : List O} {ρ : List (Option V)} {tape : List D} {cs : List Prop} {elt e : CE} {s rows : Nat} (f : Nat -> Int) (h : pv W k σ ρ e [] tape = some (.d (.int (rows : Int)), cs, [])) (hc : AllP cs) (hm : rows <= 1000) (hf : ∀ j, j < rows -> 0 <= f j /\ f j < s)
    (t : ∀ j, j < rows -> TEq W k elt (ρ ++ [some (.d (.int (j : Int)))]) σ (.int (f j))) : ET W k (.ret (.prim "tuple" [.comp elt 1 true (.prim "range" [e]) none]) :: ss) ρ σ (c0k s rows) :=
  ⟨_, c0l hf, fun Q q => TS.retV (tape := [_]) rfl ⟨TEq.tuple hW (TEq.compR hW (fun j => .int (f j)) h hc (a1k hm) t) (by erw [List.length_map, List.length_range]; exact a1k hm), trivial⟩ (q _ _ _ rfl)⟩
theorem b4s (H : HasL W) {s rows : Nat} {more : Int} (hs : 0 < s) (hr : rows <= 1000) : ESpec W (k + 2) "_law_random" [.d (.int s), .d (.int rows), .d (.int more)] (c0k s rows) :=
  ESpec.intro H.random rfl (ET.tab H.ok (fun j => (mixZ more j).fmod s) rfl trivial hr (fun j ζ => ⟨fm0 _ hs, fm1 _ hs⟩) fun j hj => TEq.ev (tape := [.int (mixZ more j)]) rfl ⟨a2m hs, a3n H more (Nat.le_trans (Nat.le_of_lt hj) hr), trivial⟩)
theorem b2v (H : HasL W) {s rows : Nat} {more : Int} (hs : 0 < s) (hsr : s <= rows) (hr : rows <= 1000) : ESpec W (k + 2) "_law_mending" [.d (.int s), .d (.int rows), .d (.int more)] (c0k s rows) := by
  have hs1 : s <= 1000 := Nat.le_trans hsr hr
  have hb : ((s : Int)).natAbs < 1073741824 := Nat.lt_of_le_of_lt hs1 (by decide)
  have hf : 0 < rows / s := Nat.div_pos hsr hs
  have hfb : ((rows / s : Nat) : Int).natAbs < 1073741824 := Nat.lt_of_le_of_lt (Nat.le_trans (Nat.div_le_self _ _) hr) (by decide)
  refine ESpec.intro H.mending rfl (ET.asg rfl ⟨⟨a2m hs, hb⟩, trivial⟩ (ET.ifV rfl ⟨by decide, trivial⟩ (fun ζ => ?_) fun ζ => ?_))
  . refine ET.tab H.ok (fun j => ((j : Int).fmod s + mixZ more (j / s)).fmod s) rfl trivial hr (fun j ζ => ⟨fm0 _ hs, fm1 _ hs⟩) fun j hj => ?_
    exact TEq.ev (tape := [.int (mixZ more (j / s))]) rfl ⟨a2m hs, a6j j s ▸ a3n H more (Nat.le_trans (Nat.div_le_self _ _) (Nat.le_trans (Nat.le_of_lt hj) hr)), ⟨a2m hs, hb⟩, a2m hs, trivial⟩
  . erw [a6j]
    refine ET.tab H.ok (fun j => ((j : Int).fdiv (rows / s : Nat) + mixZ more (j % (rows / s))).fmod s) rfl trivial hr (fun j ζ => ⟨fm0 _ hs, fm1 _ hs⟩) fun j hj => ?_
    exact TEq.ev (tape := [.int (mixZ more (j % (rows / s)))]) rfl ⟨a2m hs, a3u j (rows / s) ▸ a3n H more (Nat.le_trans (Nat.mod_le _ _) (Nat.le_trans (Nat.le_of_lt hj) hr)), a2m hf, ⟨a2m hf, hfb⟩, trivial⟩
end
end Mine
end
section
open PySem PyProof.Rows
namespace Mine
theorem a8u {α : Type} (l : List α) {a b : Nat} (hab : a <= b) (hb : b <= l.length) : a2k l (some (a : Int)) (some (b : Int)) = (l.drop a).take (b - a) := by
  unfold a2k
  have e : sliceBounds (some (a : Int)) (some (b : Int)) none l.length = ((a : Int), (b : Int), 1) := by
    simp only [sliceBounds, Option.getD_none]
    have h1 : ¬ ((a : Int) < 0) := by exact om13
    have h2 : ¬ ((b : Int) < 0) := by exact om13
    simp only [h1, h2, if_false]
    simp
    exact om24 hab hb
  erw [e]
  have e2 : sliceRange (a : Int) (b : Int) 1 = (List.range (b - a)).map fun k => a + k := by
    unfold sliceRange
    simp only [show (1 : Int) > 0 from by decide, if_true]
    by_cases h : (a : Int) < b
    . simp only [h, if_true]
      have : (((b : Int) - a + 1 - 1) / 1).toNat = b - a := by exact om25
      erw [this]
      refine List.map_congr_left fun k ζ => ?_
      exact om26
    . simp only [h, if_false]
      have : b - a = 0 := by exact om27 h
      erw [this]; simp
  erw [e2, List.filterMap_map]
  apply List.ext_getElem?
  intro i
  have key : ∀ (n : Nat), n <= l.length - a -> (List.range n).filterMap ((fun x => l[x]?) ∘ fun k => a + k) = (l.drop a).take n := by
    intro n
    induction n with
    | zero => simp
    | succ n ih =>
      intro hn
      erw [List.range_succ, List.filterMap_append, ih (om28 hn)]
      have hlt : a + n < l.length := by exact om29 hn
      simp only [List.filterMap_cons, List.filterMap_nil, Function.comp_apply, List.getElem?_eq_getElem hlt]
      erw [List.take_add_one]
      simp [hlt]
  erw [key (b - a) (om30 hb)]
theorem c4h {α : Type} (l : List α) {b : Nat} (hb : b <= l.length) : a2k l none (some (b : Int)) = l.take b := by
  have e : a2k l none (some (b : Int)) = a2k l (some ((0 : Nat) : Int)) (some (b : Int)) := by
    unfold a2k
    have : sliceBounds none (some (b : Int)) none l.length = sliceBounds (some ((0 : Nat) : Int)) (some (b : Int)) none l.length := by
      simp only [sliceBounds, Option.getD_none]
      simp
      exact om31
    erw [this]
  erw [e, a8u l (Nat.zero_le _) hb]; simp
theorem b7s {α : Type} (l : List α) {a : Nat} (ha : a <= l.length) : a2k l (some (a : Int)) none = l.drop a := by
  have e : a2k l (some (a : Int)) none = a2k l (some (a : Int)) (some ((l.length : Nat) : Int)) := by
    unfold a2k
    have : sliceBounds (some (a : Int)) none none l.length = sliceBounds (some (a : Int)) (some ((l.length : Nat) : Int)) none l.length := by
      simp only [sliceBounds, Option.getD_none]
      simp
      omega
    erw [this]
  erw [e, a8u l ha (Nat.le_refl _)]
  exact List.take_of_length_le (by simp)
section
variable {W : World0} {k : Nat} {σ : List O} {ρ : List (Option V)} {tape tape2 tape3 : List D} {cs cs2 cs3 : List Prop}
theorem TEq.sliceTo {a hi : CE} {v : V} {xs : List D} {n : Nat} (h : pv W k σ ρ a [] tape = some (v, cs, [])) (hc : AllP cs) (h2 : pv W k σ ρ hi [] tape2 = some (.d (.int (n : Int)), cs2, [])) (hc2 : AllP cs2) (hl : lstV σ v = some xs) (hn : n <= xs.length) (hz : xs.length <= 16777216) : TEq W k (.slice a none (some hi)) ρ σ (.lst (xs.take n)) :=
  TE.slice (TE.ev h hc (TE.ev h2 hc2 ⟨_, rfl, xs, hl, hz, by erw [c4h _ hn], rfl⟩))
theorem TEq.sliceFrom {a lo : CE} {v : V} {xs : List D} {n : Nat} (h : pv W k σ ρ a [] tape = some (v, cs, [])) (hc : AllP cs) (h2 : pv W k σ ρ lo [] tape2 = some (.d (.int (n : Int)), cs2, [])) (hc2 : AllP cs2) (hl : lstV σ v = some xs) (hn : n <= xs.length) (hz : xs.length <= 16777216) : TEq W k (.slice a (some lo) none) ρ σ (.lst (xs.drop n)) :=
  TE.slice (TE.ev h hc (TE.ev h2 hc2 ⟨_, rfl, xs, hl, hz, by erw [b7s _ hn], rfl⟩))
end
noncomputable def IsN (s : Nat) (r : D) : Prop := ∃ b : Nat, b < s /\ r = .int (b : Int)
theorem c4i (z : Int) {s : Nat} (hs : 0 < s) : IsN s (.int (z.fmod s)) := by
  refine xEA (a1j z hs) fun m h e => ?_
  exact ⟨m, h, by erw [e]⟩
theorem far3 {c u : Nat} (hc : c < 3) (hu : u < 3) (h : c ≠ u) : 3 - u - c < 3 /\ (3 : Int) - (u : Int) - (c : Int) = ((3 - u - c : Nat) : Int) := (by decide : ∀ c : Nat, c < 3 -> ∀ u : Nat, u < 3 -> c ≠ u -> (3 - u - c < 3 /\ (3 : Int) - (u : Int) - (c : Int) = ((3 - u - c : Nat) : Int))) c hc u hu h
section
variable {W : World0} {k : Nat}
theorem b4t (H : HasL W) {n : Nat} (hn : n < 9) (way : Int) : ESpec W (k + 1) "_law_beside" [.d (.int n), .d (.int way)] (IsN 3) := by
  obtain ⟨u, hu, eu⟩ : ∃ u : Nat, u < 3 /\ (way.fdiv 2).fmod 3 = (u : Int) := a1j (way.fdiv 2) (b := 3) (by decide)
  obtain ⟨v, hv, ev⟩ : ∃ v : Nat, v < 2 /\ way.fmod 2 = (v : Int) := a1j way (b := 2) (by decide)
  have e1 : (n : Int).fdiv 3 = ((n / 3 : Nat) : Int) := a6j n 3
  have e2 : (n : Int).fmod 3 = ((n % 3 : Nat) : Int) := a3u n 3
  obtain ⟨c, m, hc, hm, hs⟩ : ∃ c m : Nat, c < 3 /\ m < 3 /\ SubV [] (.d (.lst [.tup [.int ((n : Int).fdiv 3), .int ((n : Int).fmod 3)], .tup [.int ((n : Int).fmod 3), .int ((n : Int).fdiv 3)]])) (.d (.int (way.fmod 2))) (.d (.tup [.int (c : Int), .int (m : Int)])) := by
    erw [ev, e1, e2]
    rcases lt2 hv with rfl | rfl
    . exact ⟨n / 3, n % 3, Nat.div_lt_of_lt_mul hn, Nat.mod_lt _ (by decide), a0n (b := true) (n := 0) rfl (by decide : 2 <= 16777216) rfl⟩
    . exact ⟨n % 3, n / 3, Nat.mod_lt _ (by decide), Nat.div_lt_of_lt_mul hn, a0n (b := true) (n := 1) rfl (by decide : 2 <= 16777216) rfl⟩
  refine ESpec.intro H.beside rfl (ET.asg rfl ⟨by decide, ⟨by decide, by decide⟩, trivial⟩ ?_)
  erw [eu]
  refine ET.asgT (tape := [.tup [.int (c : Int), .int (m : Int)]]) rfl ⟨hs, by decide, ⟨by decide, by decide⟩, by decide, by decide, ⟨by decide, by decide⟩, trivial⟩ rfl rfl (ET.ifV rfl trivial (fun h => ?_) fun ζ => ET.ret rfl trivial ⟨c, hc, rfl⟩)
  rw [Bool.and_eq_true, Bool.not_eq_true'] at h
  have := far3 hc hu (bneN h.2)
  exact ET.ret rfl trivial ⟨3 - u - c, this.1, by erw [← this.2]⟩
theorem b2w (H : HasL W) (n : Nat) (way : Int) : ESpec W (k + 1) "_law_between" [.d (.int n), .d (.int way)] (IsN 2) := by
  obtain ⟨u, hu, eu⟩ : ∃ u : Nat, u < 2 /\ (way.fdiv 2).fmod 2 = (u : Int) := a1j (way.fdiv 2) (b := 2) (by decide)
  obtain ⟨v, hv, ev⟩ : ∃ v : Nat, v < 2 /\ way.fmod 2 = (v : Int) := a1j way (b := 2) (by decide)
  refine ESpec.intro H.between rfl (ET.asg rfl ⟨by decide, by decide, ⟨by decide, by decide⟩, by decide, ⟨by decide, by decide⟩, ⟨by decide, by decide⟩, trivial⟩ (ET.asg rfl ⟨by decide, ⟨by decide, by decide⟩, trivial⟩ ?_))
  erw [eu]
  generalize (n : Int).fdiv 8 = c0
  generalize ((n : Int).fdiv 4).fmod 2 = c1
  generalize ((n : Int).fdiv 2).fmod 2 = c2
  generalize (n : Int).fmod 2 = c3
  obtain ⟨x, hx⟩ : ∃ x : List D, SubV [] (.d (.lst [.lst [.int 1, .int 0, .int 1], .lst [.int 0, .int 1, .int 0]])) (.d (.int (way.fmod 2))) (.d (.lst x)) /\ a1a x = true := by
    erw [ev]
    rcases lt2 hv with rfl | rfl
    . exact ⟨_, a0n (b := true) (n := 0) rfl (by decide : 2 <= 16777216) rfl, rfl⟩
    . exact ⟨_, a0n (b := true) (n := 1) rfl (by decide : 2 <= 16777216) rfl, rfl⟩
  have key : ∀ {at1 : Nat} {ca ra rb rc : Int}, at1 + 1 <= 4 -> (([D.int c0, .int c1, .int c2, .int c3].take at1) ++ ([D.int c0, .int c1, .int c2, .int c3].drop (at1 + 1)) = [.int ra, .int rb, .int rc]) -> [D.int c0, .int c1, .int c2, .int c3][at1]? = some (.int ca) ->
      ET W k [.asg 4 (.bin .Add (.slice (.var 2) none (some (.var 3))) (.slice (.var 2) (some (.bin .Add (.var 3) (.int 1))) none)), .ret (.bin .Mod (.bin .Add (.sub (.var 2) (.var 3)) (.prim "int" [(.cmp .Eq (.var 4) (.sub (.lst [(.lst [(.int 1), (.int 0), (.int 1)]), (.lst [(.int 0), (.int 1), (.int 0)])]) (.bin .Mod (.var 1) (.int 2))))])) (.int 2))]
        [some (.d (.int (n : Int))), some (.d (.int way)), some (.d (.lst [.int c0, .int c1, .int c2, .int c3])), some (.d (.int (at1 : Int))), none] [] (IsN 2) := by
    intro at1 ca ra rb rc ha hr hca
    refine ET.asg (tape := [.lst ([D.int c0, .int c1, .int c2, .int c3].take at1), .lst ([D.int c0, .int c1, .int c2, .int c3].drop (at1 + 1))]) rfl ⟨by erw [← List.length_append, hr]; exact (by decide : 3 <= 16777216),
      TEq.sliceFrom (n := at1 + 1) rfl trivial rfl trivial rfl ha (by decide : 4 <= 16777216), TEq.sliceTo rfl trivial rfl trivial rfl (Nat.le_of_succ_le ha) (by decide : 4 <= 16777216), trivial⟩ ?_
    erw [hr]
    refine ET.ret (tape := [.int ca, .int (if eqD (.lst [.int ra, .int rb, .int rc]) (.lst x) then 1 else 0)]) rfl ⟨by decide, TE.int1 H.ok (TE.ev (tape := [.lst x]) rfl ⟨⟨rfl, hx.2, (by decide : 1 <= 200)⟩, hx.1, by decide, trivial⟩ ⟨_, rfl, rfl, rfl⟩), a0n (b := true) rfl (by decide : 4 <= 16777216) hca, trivial⟩ (c4i _ (s := 2) (by decide))
  rcases lt2 hu with rfl | rfl
  . exact key (at1 := 1) (by decide) rfl rfl
  . exact key (at1 := 2) (by decide) rfl rfl
end
end Mine
end
section
open PySem PyProof.Rows
namespace Mine
theorem c0m {a b : List D} (h : D.tup a = .tup b) : a = b := by cases h; rfl
theorem OkS.pos {s w : Nat} (S : OkS s w) : 0 < s := Nat.lt_of_lt_of_le (by decide) S.s2
theorem OkS.s1000 {s w : Nat} (S : OkS s w) : s <= 1000 := Nat.le_trans S.s4 (by decide)
theorem OkS.ok {s w : Nat} (S : OkS s w) {t : List Nat} (h1 : t.length = s ^ w) (h2 : ∀ x ∈ t, x < s) : OkR s w t := ⟨S.s2, S.s4, S.w1, S.w4, S.rows, h1, h2⟩
theorem OkS.le {s w : Nat} (S : OkS s w) : s <= s ^ w := by
  have h := S.w1
  cases w with
  | zero => cases h
  | succ v => exact Nat.le_mul_of_pos_left s (Nat.pow_pos S.pos)
noncomputable def isRule (r : D) : Prop := ∃ (s w : Nat) (t : List Nat), OkR s w t /\ r = a0k s w t
section
variable {W : World0} {k : Nat}
theorem b6m {s : Nat} {ord : List Nat} (h1 : ord.length = s) (h2 : ∀ x ∈ ord, x < s) {b : Nat} (hb : b < s) : (0 : Int) <= ((ord.getD b 0 : Nat) : Int) /\ ((ord.getD b 0 : Nat) : Int) < s := by
  have hb' : b < ord.length := h1 ▸ hb
  erw [List.getD_eq_getElem?_getD, List.getElem?_eq_getElem hb']
  exact ⟨Int.natCast_nonneg _, Int.ofNat_lt.mpr (h2 _ (List.getElem_mem _))⟩
theorem b0z {s : Nat} {ord : List Nat} {σ : List O} (h1 : ord.length = s) (hs : s <= 1000) {b : Nat} (hb : b < s) : SubV σ (.d (.lst (a0a ord))) (.d (.int (b : Int))) (.d (.int ((ord.getD b 0 : Nat) : Int))) := by
  have hb' : b < ord.length := h1 ▸ hb
  refine a0n (b := true) rfl (by erw [a0b, h1]; exact a1k hs) (a2l ?_)
  erw [List.getD_eq_getElem?_getD, List.getElem?_eq_getElem hb']; rfl
theorem b4u (H : HasL W) {s w : Nat} {more : Int} (S : OkS s w) : ESpec W (k + 2) "_law_turned" [.d (.int s), .d (.int w), .d (.int ((s ^ w : Nat) : Int)), .d (.int more)] (c0k s (s ^ w)) := by
  have hs := S.pos
  have hs1 := S.s1000
  obtain ⟨v, hv, ev⟩ : ∃ v : Nat, v < 2 /\ (more.fdiv 64).fmod 2 = (v : Int) := a1j (more.fdiv 64) (b := 2) (by decide)
  obtain ⟨u, hu, eu⟩ : ∃ u : Nat, u < w /\ (more.fdiv 16).fmod w = (u : Int) := a1j (more.fdiv 16) S.w1
  obtain ⟨m, hm⟩ : ∃ m : Int, SubV [] (.d (.lst [.int 1, .int ((s : Int) - 1)])) (.d (.int ((more.fdiv 64).fmod 2))) (.d (.int m)) := by
    erw [ev]
    rcases lt2 hv with rfl | rfl
    . exact ⟨_, a0n (b := true) (n := 0) rfl (by decide : 2 <= 16777216) rfl⟩
    . exact ⟨_, a0n (b := true) (n := 1) rfl (by decide : 2 <= 16777216) rfl⟩
  refine ESpec.intro H.turned rfl (ET.asgCR H.ok (fun j => .int ((more.fdiv 4 + (j : Int) * m).fmod s)) rfl trivial (a1k hs1) (fun j hj => TEq.ev (tape := [.int m]) rfl ⟨a2m hs, .inl (lt64 (Nat.le_trans (Nat.le_of_lt hj) hs1)), hm, by decide, ⟨by decide, by decide⟩, ⟨by decide, by decide⟩, trivial⟩) ?_)
  obtain ⟨ord, o1, o2, o3⟩ := c0l (s := s) (rows := s) (f := fun j => (more.fdiv 4 + (j : Int) * m).fmod s) fun j ζ => ⟨fm0 _ hs, fm1 _ hs⟩
  erw [c0m o3]
  clear o3
  refine ET.ifV rfl ⟨by decide, trivial⟩ (fun h => ?_) fun ζ => ET.ifV rfl ⟨by decide, trivial⟩ (fun h => ?_) fun ζ => ET.ifV rfl ⟨by decide, trivial⟩ (fun h => ?_) fun ζ => ?_
  . rw [Bool.and_eq_true, Bool.and_eq_true] at h
    cases beqN (b := 4) h.1; cases beqN (b := 2) h.2.1
    refine ET.tab H.ok (rows := 16) (fun j => ((ord.getD (j / 8 * 2 + j % 2) 0 : Nat) : Int)) rfl trivial (by decide) (fun j hj => ?_) fun j hj => ?_
    all_goals have hb : j / 8 * 2 + j % 2 < 4 := (by decide : ∀ j, j < 16 -> j / 8 * 2 + j % 2 < 4) j hj
    . exact b6m o1 o2 hb
    . have e : (j : Int).fdiv 8 * 2 + (j : Int).fmod 2 = ((j / 8 * 2 + j % 2 : Nat) : Int) := by
        have e1 : (j : Int).fdiv 8 = ((j / 8 : Nat) : Int) := a6j j 8
        have e2 : (j : Int).fmod 2 = ((j % 2 : Nat) : Int) := a3u j 2
        erw [e1, e2]; rfl
      exact TEq.ev (tape := [.int ((ord.getD (j / 8 * 2 + j % 2) 0 : Nat) : Int)]) rfl ⟨e ▸ b0z o1 (by decide) hb, by decide, .inr (by decide), ⟨by decide, by decide⟩, trivial⟩
  . rw [Bool.and_eq_true, Bool.and_eq_true] at h
    cases beqN (b := 3) h.1; cases beqN (b := 2) h.2.1
    have hB : ∀ j : Nat, ∃ b : Nat, j < 9 -> b < 3 /\ Spec W k.succ "_law_beside" [.d (.int j), .d (.int (more.fdiv 256))] (.int (b : Int)) := fun j => by
      by_cases hj : j < 9
      . obtain ⟨r, ⟨b, hb, rfl⟩, sp⟩ := b4t (k := k) H hj (more.fdiv 256)
        exact ⟨b, fun ζ => ⟨hb, sp⟩⟩
      . exact ⟨0, fun h => absurd h hj⟩
    refine xE (Classical.axiomOfChoice hB) fun g hg => ?_
    refine ET.tab H.ok (rows := 9) (fun j => ((ord.getD (g j) 0 : Nat) : Int)) rfl trivial (by decide) (fun j hj => b6m o1 o2 (hg j hj).1) fun j hj => ?_
    exact TEq.ev (tape := [.int ((g j : Nat) : Int), .int ((ord.getD (g j) 0 : Nat) : Int)]) rfl ⟨b0z o1 (by decide) (hg j hj).1, (hg j hj).2, ⟨by decide, by decide⟩, trivial⟩
  . rw [Bool.and_eq_true, Bool.and_eq_true] at h
    cases beqN (b := 2) h.1; cases beqN (b := 4) h.2.1
    have hB : ∀ j : Nat, ∃ b : Nat, b < 2 /\ Spec W k.succ "_law_between" [.d (.int j), .d (.int (more.fdiv 256))] (.int (b : Int)) := fun j => by
      obtain ⟨r, ⟨b, hb, rfl⟩, sp⟩ := b2w (k := k) H j (more.fdiv 256)
      exact ⟨b, hb, sp⟩
    refine xE (Classical.axiomOfChoice hB) fun g hg => ?_
    refine ET.tab H.ok (rows := 16) (fun j => ((ord.getD (g j) 0 : Nat) : Int)) rfl trivial (by decide) (fun j hj => b6m o1 o2 (hg j).1) fun j hj => ?_
    exact TEq.ev (tape := [.int ((g j : Nat) : Int), .int ((ord.getD (g j) 0 : Nat) : Int)]) rfl ⟨b0z o1 (by decide) (hg j).1, (hg j).2, ⟨by decide, by decide⟩, trivial⟩
  . obtain ⟨st, hst0, hst1, hst⟩ : ∃ st : Nat, 0 < st /\ st <= 1000 /\ SubV [] (.d (.lst [.int 1, .int (s : Int), .int ((s : Int) * (s : Int)), .int ((s : Int) * (s : Int) * (s : Int))])) (.d (.int ((more.fdiv 16).fmod w))) (.d (.int (st : Int))) := by
      erw [eu]
      have hu4 : u < 4 := Nat.lt_of_lt_of_le hu S.w4
      have hss : s * s <= 4 * 4 := Nat.mul_le_mul S.s4 S.s4
      have hsss : s * s * s <= 4 * 4 * 4 := Nat.mul_le_mul hss S.s4
      rcases (by decide : ∀ u, u < 4 -> (u = 0 ∨ u = 1 ∨ u = 2 ∨ u = 3)) u hu4 with rfl | rfl | rfl | rfl
      . exact ⟨1, by decide, by decide, a0n (b := true) (n := 0) rfl (by decide : 4 <= 16777216) rfl⟩
      . exact ⟨s, hs, hs1, a0n (b := true) (n := 1) rfl (by decide : 4 <= 16777216) rfl⟩
      . exact ⟨s * s, Nat.mul_pos hs hs, Nat.le_trans hss (by decide), a0n (b := true) (n := 2) rfl (by decide : 4 <= 16777216) rfl⟩
      . exact ⟨s * s * s, Nat.mul_pos (Nat.mul_pos hs hs) hs, Nat.le_trans hsss (by decide), a0n (b := true) (n := 3) rfl (by decide : 4 <= 16777216) rfl⟩
    refine ET.asg (tape := [.int (st : Int)]) rfl ⟨hst, a2m S.w1, ⟨by decide, by decide⟩, .inr (lt64 hs1), .inr (lt64 hs1), .inr (lt64 hs1), trivial⟩
      (ET.tab H.ok (fun j => ((ord.getD (j / st % s) 0 : Nat) : Int)) rfl trivial (Nat.le_trans S.rows (by decide)) (fun j hj => b6m o1 o2 (Nat.mod_lt _ hs)) fun j hj => ?_)
    have e : ((j : Int).fdiv st).fmod s = ((j / st % s : Nat) : Int) := by erw [a6j, a3u]
    exact TEq.ev (tape := [.int ((ord.getD (j / st % s) 0 : Nat) : Int)]) rfl ⟨e ▸ b0z o1 hs1 (Nat.mod_lt _ hs), a2m hs, ⟨a2m hst0, Nat.lt_of_le_of_lt hst1 (by decide)⟩, trivial⟩
theorem c0n (H : HasL W) (cell more : Int) : ESpec W (k + 3) "_law_rule" [.d (.int cell), .d (.int more)] isRule := by
  obtain ⟨u, hu, eu⟩ : ∃ u : Nat, u < 8 /\ cell.fmod 8 = (u : Int) := a1j cell (b := 8) (by decide)
  obtain ⟨s, w, S, hg⟩ : ∃ s w : Nat, OkS s w /\ SubV [] (.d (.lst [D.tup [.int 2, .int 3, .int 8], .tup [.int 2, .int 2, .int 4], .tup [.int 3, .int 2, .int 9], .tup [.int 4, .int 2, .int 16], .tup [.int 2, .int 1, .int 2], .tup [.int 2, .int 4, .int 16], .tup [.int 3, .int 1, .int 3], .tup [.int 4, .int 1, .int 4]])) (.d (.int (cell.fmod 8))) (.d (.tup [.int (s : Int), .int (w : Int), .int ((s ^ w : Nat) : Int)])) := by
    erw [eu]
    rcases lt8 hu with rfl | rfl | rfl | rfl | rfl | rfl | rfl | rfl
    . exact ⟨2, 3, ⟨by decide, by decide, by decide, by decide, by decide⟩, a0n (b := true) (n := 0) rfl (by decide : 8 <= 16777216) rfl⟩
    . exact ⟨2, 2, ⟨by decide, by decide, by decide, by decide, by decide⟩, a0n (b := true) (n := 1) rfl (by decide : 8 <= 16777216) rfl⟩
    . exact ⟨3, 2, ⟨by decide, by decide, by decide, by decide, by decide⟩, a0n (b := true) (n := 2) rfl (by decide : 8 <= 16777216) rfl⟩
    . exact ⟨4, 2, ⟨by decide, by decide, by decide, by decide, by decide⟩, a0n (b := true) (n := 3) rfl (by decide : 8 <= 16777216) rfl⟩
    . exact ⟨2, 1, ⟨by decide, by decide, by decide, by decide, by decide⟩, a0n (b := true) (n := 4) rfl (by decide : 8 <= 16777216) rfl⟩
    . exact ⟨2, 4, ⟨by decide, by decide, by decide, by decide, by decide⟩, a0n (b := true) (n := 5) rfl (by decide : 8 <= 16777216) rfl⟩
    . exact ⟨3, 1, ⟨by decide, by decide, by decide, by decide, by decide⟩, a0n (b := true) (n := 6) rfl (by decide : 8 <= 16777216) rfl⟩
    . exact ⟨4, 1, ⟨by decide, by decide, by decide, by decide, by decide⟩, a0n (b := true) (n := 7) rfl (by decide : 8 <= 16777216) rfl⟩
  have hr : s ^ w <= 1000 := Nat.le_trans S.rows (by decide)
  refine ESpec.intro H.rule rfl (ET.asg rfl trivial (ET.asgT (tape := [.tup [.int (s : Int), .int (w : Int), .int ((s ^ w : Nat) : Int)]]) rfl ⟨hg, by decide, trivial⟩ rfl rfl (ET.ifV rfl ⟨by decide, ⟨by decide, by decide⟩, trivial⟩ (fun ζ => ?_) fun ζ => ET.ifV rfl ⟨by decide, ⟨by decide, by decide⟩, trivial⟩ (fun ζ => ?_) fun ζ => ?_)))
  . obtain ⟨r, ⟨t, t1, t2, rfl⟩, sp⟩ := b2v (k := k) H (more := more) S.pos S.le hr
    exact ET.ret (tape := [.tup (a0a t)]) rfl ⟨sp, trivial⟩ ⟨s, w, t, S.ok t1 t2, rfl⟩
  . obtain ⟨r, ⟨t, t1, t2, rfl⟩, sp⟩ := b4u (k := k) H (more := more) S
    exact ET.ret (tape := [.tup (a0a t)]) rfl ⟨sp, trivial⟩ ⟨s, w, t, S.ok t1 t2, rfl⟩
  . obtain ⟨r, ⟨t, t1, t2, rfl⟩, sp⟩ := b4s (k := k) H (more := more) S.pos hr
    exact ET.ret (tape := [.tup (a0a t)]) rfl ⟨sp, trivial⟩ ⟨s, w, t, S.ok t1 t2, rfl⟩
end
end Mine
end
section
open PySem PyProof.Rows PySem.SeqAt
namespace Mine
structure FrameOk (X : Cx) (base : Heap) (outer : List Env) : Prop where
  stack : X.A.frames = some (X.env :: outer)
  fr : X.env.frame = some X.env.locals
  stays : base.StaysIn X.hB
  frames : X.hB.FunFrames base outer
noncomputable def OwnNs (X : Cx) (h : Heap) : Prop := ∃ (m cm : Str -> Option Value), h.Ns X.env.locals m /\ ∀ n c, X.env.cells.lookup n = some c -> h.IsCell c (cm n)
theorem b4v {M : Model} {A : Around} {E : Value -> Shared -> Prop} {s : Shared} {base : Heap} {env : Env} {outer : List Env} {L e : Addr} {cls a0 : Value} {Q : Unit -> Shared -> Prop} (hf : env.frame = some L)
    (hh : Heap.HeldW base (env :: outer) e cls a0 L s.heap) (hQ : ∀ h', Heap.FlyingW base outer e cls a0 h' -> s.heap.UpToSlots h' -> Q () { s with heap := h' }) : wpAny M A (leaving env (.ref e)) Q E s := by
  unfold leaving
  refine wpAny_bind (wpAny_noteFrame_againW hf hh.2.2.2 ?_)
  refine wpAny_landsW hh fun h' hfl up => ?_
  obtain ⟨k1, k2, ⟨_, _, k3⟩, k4⟩ := hfl
  exact hQ h' ⟨k1, k2, k3, k4⟩ up
inductive RaiseE (W : World0) (X : Cx) (base : Heap) (outer : List Env) (c : String) (m : Bool) (e : Value) (s' : Shared) : Prop
  | made (hm : m = true) (ea C : Addr) (h : Heap) (vs : List Value) (h1 : e = .ref ea) (h2 : W.gl (Str.ofString c) = some (.ref C)) (h3 : s'.os = X.os) (h4 : s'.gens = X.gens) (h5 : Heap.MadeExcOf h s'.heap ea (.ref C) vs) (h6 : base.StaysIn h) (h7 : h.FunFrames base (X.env :: outer)) (h8 : X.hB.UpToSlots s'.heap) : RaiseE W X base outer c m e s'
  | held (hm : m = true) (ea C t : Addr) (h1 : e = .ref ea) (h2 : W.gl (Str.ofString c) = some (.ref C)) (h3 : s'.os = X.os) (h4 : s'.gens = X.gens) (h5 : Heap.HeldW base (X.env :: outer) ea (.ref C) (.ref t) X.env.locals s'.heap) (h6 : X.hB.UpToSlots s'.heap) : RaiseE W X base outer c m e s'
  | flies (ea C t : Addr) (h1 : e = .ref ea) (h2 : W.gl (Str.ofString c) = some (.ref C)) (h3 : s'.os = X.os) (h4 : s'.gens = X.gens) (h5 : Heap.FlyingW base (X.env :: outer) ea (.ref C) (.ref t) s'.heap) (h6 : X.hB.UpToSlots s'.heap) (h7 : OwnNs X s'.heap) : RaiseE W X base outer c m e s'
inductive FlyE (W : World0) (s : Shared) (base : Heap) (outer : List Env) (c : String) (e : Value) (s' : Shared) : Prop
  | mk (ea C t : Addr) (h1 : e = .ref ea) (h2 : W.gl (Str.ofString c) = some (.ref C)) (h3 : s'.os = s.os) (h4 : s'.gens = s.gens) (h5 : Heap.FlyingW base outer ea (.ref C) (.ref t) s'.heap) (h6 : s.heap.UpToSlots s'.heap) : FlyE W s base outer c e s'
noncomputable def FunR (W : World0) (k : Nat) (f : String) (args : List V) (c : String) : Prop :=
  ∀ A s vs Φ base outer, Room A k -> W.ok s.heap -> (∀ a, Φ a -> used s a) -> VRels W.gl s.heap noL Φ [] vs args -> Below A base outer s.heap -> ∀ a, W.gl (Str.ofString f) = some (.ref a) ->
    (∃ o fd, s.heap.get? a = some o /\ o.data = .func fd) /\ wpAny (model W.p W.w) A (call (.ref a) vs) (fun ζ ζ => False) (FlyE W s base outer c) s
noncomputable def TX (W : World0) (k : Nat) (ss : List CS) (ρ : List (Option V)) (σ : List O) (c : String) (m : Bool) : Prop :=
  ∀ names sc S, isSs names sc ss S = true -> ∀ X : Cx, KindsOk X.env sc -> Room X.A k -> W.ok X.hB -> ∀ base outer, FrameOk X base outer -> ∀ Λ ad s, St W.gl X names ρ σ Λ ad s ->
    wpAny (model W.p W.w) X.A (execs S X.env) (fun ζ ζ => False) (RaiseE W X base outer c m) s
noncomputable def TX1 (W : World0) (k : Nat) (st : CS) (ρ : List (Option V)) (σ : List O) (c : String) (m : Bool) : Prop :=
  ∀ names sc S, isS names sc st S = true -> ∀ X : Cx, KindsOk X.env sc -> Room X.A k -> W.ok X.hB -> ∀ base outer, FrameOk X base outer -> ∀ Λ ad s, St W.gl X names ρ σ Λ ad s ->
    wpAny (model W.p W.w) X.A (exec S X.env) (fun ζ ζ => False) (RaiseE W X base outer c m) s
noncomputable def EX (W : World0) (k : Nat) (e : CE) (ρ : List (Option V)) (σ : List O) (c : String) (m : Bool) : Prop :=
  ∀ names sc E, isE names sc e E = true -> ∀ X : Cx, KindsOk X.env sc -> Room X.A k -> W.ok X.hB -> ∀ base outer, FrameOk X base outer -> ∀ Λ ad s, St W.gl X names ρ σ Λ ad s ->
    wpAny (model W.p W.w) X.A (eval E X.env) (fun ζ ζ => False) (RaiseE W X base outer c m) s
noncomputable def HasX (W : World0) (c : String) : Prop := specOf W.q (Str.ofString c) = some ("ValueError.__new__", [.type "ValueError", .type "Exception", .type "BaseException", .type "object"])
section
variable {W : World0} {k : Nat} {A : Around} {s s' s'' : Shared} {F : Addr -> Prop} {sc : Scope} {c : String} {mm : Bool}
variable {gl : Str -> Option Value} {X : Cx} {names : List Str} {ρ ρ' : List (Option V)} {σ σ' σ'' : List O} {Λ Λ' : Addr -> Prop} {ad ad' : List Addr}
theorem FrameOk.now {base : Heap} {outer : List Env} (fo : FrameOk X base outer) (hk : KindsOk X.env sc) (S : St gl X names ρ σ Λ ad s) : base.StaysIn s.heap /\ s.heap.FunFrames base (X.env :: outer) := by
  refine ⟨fun b o e => S.keep b o (fo.stays b o e), ?_, ⟨X.env.locals, ?_⟩, ?_⟩
  . erw [hk.kind]; intro h; cases h
  . obtain ⟨m, o, es, ep, e, d, _⟩ := S.ns
    refine ⟨o, fo.fr, ?_, e, fun vs h => by rw [d] at h; cases h⟩
    cases q : base.get? X.env.locals with
    | none => rfl
    | some o => have := S.new _ S.locL; rw [fo.stays _ _ q] at this; exact dSN this
  . exact fo.frames.of_keeps fun b o e ζ => ⟨o, S.keep b o e, rfl⟩
theorem a6v {h h' : Heap} {z : Addr} {v : Option Value} (x : h.IsCell z v) (u : h.UpToSlots h') : h'.IsCell z v := by
  obtain ⟨o, e, d⟩ := x
  obtain ⟨sl, e'⟩ := u z o e fun vs q => by rw [d] at q; cases q
  exact ⟨_, e', d⟩
theorem FunR.intro {f : String} {cf : CF} {args : List V} (hf : HasF W f cf) (hlen : args.length = cf.nparams) (t : TX W k cf.body (args.map some ++ List.replicate (cf.nvars - cf.nparams) none) [] c true) : FunR W (k + 1) f args c :=
  fun A s vs Φ base outer hr hw hΦ rel K a ha => by
    obtain ⟨ho, hc⟩ := Fun.start hf hlen hr hw hΦ rel ha (R := wants (fun ζ ζ => False) (FlyE W s base outer c)) fun names sc S X Λ s₁ hb hk hrx hA hB hos hgn hPh hfr St => by
      have fo : FrameOk X base outer := ⟨by erw [hA]; exact Around.frames_deeper K.stack, hfr, hB ▸ K.stays, hB ▸ K.frames⟩
      refine wpAny_mono (t _ sc S hb X hk hrx (hB ▸ hw) base outer fo _ _ _ St) (fun ζ ζ f => f.elim) fun e s' h => ?_
      cases h with
      | made _ ea C h vs h1 h2 h3 h4 h5 h6 h7 h8 =>
        subst h1
        exact wpAny_leaves_madeW fo.stack hfr h6 h7 h5 fun h' t g1 ζ ζ g4 => ⟨ea, C, t, rfl, h2, h3.trans hos, h4.trans hgn, g1, (hB ▸ h8).trans g4⟩
      | held _ ea C t h1 h2 h3 h4 h5 h6 =>
        subst h1
        exact b4v hfr h5 fun h' g1 g2 => ⟨ea, C, t, rfl, h2, h3.trans hos, h4.trans hgn, g1, (hB ▸ h6).trans g2⟩
      | flies ea C t h1 h2 h3 h4 h5 h6 _ =>
        subst h1
        exact wpAny_leaves_onW fo.stack hfr h5 fun h' g1 g2 => ⟨ea, C, t, rfl, h2, h3.trans hos, h4.trans hgn, g1, (hB ▸ h6).trans g2⟩
    exact ⟨ho, wpAny_call hc⟩
theorem TX.cons {st : CS} {ss : List CS} (t : TX1 W k st ρ σ c mm) : TX W k (st :: ss) ρ σ c mm := fun names sc S he X hk hr hw base outer fo Λ ad s St => by
  replace he := a1s he; obtain ⟨x, xs, rfl, he⟩ := he
  have he := Bool.and_eq_true_iff.mp he
  exact wpAny_execs_cons (wpAny_mono (t names sc x he.1 X hk hr hw base outer fo Λ ad s St) (fun ζ ζ f => f.elim) fun ζ ζ h => h)
theorem TX.next {st : CS} {ss : List CS} (t : TS1 W k st ρ σ fun out ρ' σ' => out = .next /\ TX W k ss ρ' σ' c mm) : TX W k (st :: ss) ρ σ c mm := fun names sc S he X hk hr hw base outer fo Λ ad s St => by
  replace he := a1s he; obtain ⟨x, xs, rfl, he⟩ := he
  have he := Bool.and_eq_true_iff.mp he
  refine wpAny_execs_cons (wpAny_mono (t names sc x he.1 X hk hr hw Λ ad s St) (fun f s₁ h₁ => ?_) fun ζ ζ f => f.elim)
  obtain ⟨out, ρ₁, σ₁, Λ₁, ad₁, S₁, P₁, fr, rfl, q⟩ := h₁
  cases fr
  exact q names sc xs he.2 X hk hr hw base outer fo Λ₁ ad₁ s₁ S₁
theorem TX1.ite {e : CE} {a b : List CS} (t : TC W k e ρ σ fun v σ' => if v then TX W k a ρ σ' c mm else TX W k b ρ σ' c mm) : TX1 W k (.ite e a b) ρ σ c mm := fun names sc S he X hk hr hw base outer fo Λ ad s St => by
  replace he := b9b he; obtain ⟨_, _, _, _, rfl, he⟩ := he
  simp only [Bool.and_eq_true] at he
  refine wpAny_If (wpAny_mono (t names sc _ he.1.1 X hk hr hw Λ ad s St) (fun v s₁ h₁ => ?_) fun ζ ζ f => f.elim)
  obtain ⟨σ₁, Λ₁, ad₁, S₁, P₁, q⟩ := h₁
  cases v with
  | true => exact q names sc _ he.1.2 X hk hr hw base outer fo Λ₁ ad₁ s₁ S₁
  | false => exact q names sc _ he.2 X hk hr hw base outer fo Λ₁ ad₁ s₁ S₁
theorem TX1.ex {e : CE} (t : EX W k e ρ σ c mm) (hn : a1v e = true := by rfl) : TX1 W k (.ex e) ρ σ c mm := fun names sc S he X hk hr hw base outer fo Λ ad s St => by
  replace he := c6h he; obtain ⟨_, _, rfl, he⟩ := he
  refine wpAny_Expr_any (wpAny_mono (t names sc _ he X hk hr hw base outer fo Λ ad s St) (fun ζ ζ f => f.elim) fun ζ ζ h => h) ?_ (a1p he hn _ _ _)
  unfold interactive; erw [hk.kind]; rfl
theorem EX.call {f : String} {cf : CF} {es : List CE} (hf : HasF W f cf) (hne : es ≠ []) (t : TEs W k es ρ σ fun vals σ' => ∃ args, ArgsOk σ' vals args /\ FunR W k f args c) : EX W k (.call f es) ρ σ c mm := fun names sc E he X hk hr hw base outer fo Λ ad s S => by
  replace he := a7t he; obtain ⟨_, _, _, _, rfl, he⟩ := he
  simp only [Bool.and_eq_true] at he
  refine a7u hf hne he.1.1 he.1.2 hk hr hw S t fun a vs s₁ vals σ₁ Λ₁ ad₁ hg S₁ P₁ r₁ q => ?_
  refine xEA q fun args ha F => ?_
  have nw := fo.now hk S₁
  refine wpAny_mono (F X.A s₁ vs (Un Λ₁ X.Φ) base (X.env :: outer) hr (W.keeps hw S₁.keep) S₁.usedF (b0p S₁ r₁ ha) ⟨fo.stack, nw.1, nw.2⟩ a hg).2 (fun ζ ζ f => f) fun e s' h => ?_
  obtain ⟨ea, C, t, h1, h2, h3, h4, h5, h6⟩ := h
  refine .flies ea C t h1 h2 (h3.trans S₁.os) (h4.trans S₁.gens) h5 ((Heap.UpToSlots.of_keeps S₁.keep).trans h6) ?_
  refine a1f S₁.vars fun m cm hn hcl ζ => ?_
  exact ⟨m, cm, h6.ns hn, fun n cc hl => a6v (hcl n cc hl) h6⟩
theorem TX1.raise {m : String} (hx : HasX W c) : TX1 W k (.raise c m) ρ σ c true := fun names sc S he X hk hr hw base outer fo Λ ad s St => by
  replace he := b9c he; obtain ⟨x, px, t, a, b, cp, pos, rfl, he⟩ := he
  have he := Bool.and_eq_true_iff.mp he
  refine xEA (hw.ownAt hx) fun C O ζ => ?_
  have nw := fo.now hk St
  (refine a7c O.own.obj fun tl N nm q bs hdct sn sub ab col dd ε0 => ?_; obtain ⟨k0, k1, k2, k3, k5, mN, hC, hN, hni, T⟩ := ε0)
  refine wpAny_Raise_call_subU (C := C) (nm := nm) (q := q) (N := N) (bs := bs) (bm := tl) (hdct := hdct) (sn := sn) (sub := sub) (ab := ab) (col := col) (dd := dd) (k0 := k0) (k1 := k1) (k2 := k2) (k3 := k3) (k5 := k5)
    PySem.F.excBase_ValueError (by decide) PySem.F.excBase_ValueError (mN := mN) (T.hasType PySem.F.excBase_ValueError.hasBase) hr.1 rfl hni (a4g hk hw St he.1 O.bound ⟨rfl, ?_⟩)
  have hs : isEs names sc [.str m] [.Constant (.str t) a b] = true := by
    show ((t == Str.ofString m) && true) = true
    erw [he.2]; rfl
  have hs1 : isE names sc (.str m) (.Constant (.str t) a b) = true := he.2
  have run := TEs.run (k := k) (es := [.str m]) (Q := fun vals ζ => vals.length = 1) (show TE W k (.str m) ρ σ _ from TE.str rfl) hs hk hr hw St cp
  rw [a0m hs1] at run ⊢
  refine Calls.evalArgs_plain (wpAny_mono run (fun vs s₁ h₁ => ?_) fun ζ ζ f => f.elim)
  obtain ⟨vals, σ₁, Λ₁, ad₁, S₁, P₁, r₁, q⟩ := h₁
  have nw₁ := fo.now hk S₁
  refine ⟨rfl, ?_, S₁.keep _ _ hC, hN.keeps S₁.keep, T.keeps S₁.keep, fun h' e hm => .made rfl e C s₁.heap vs rfl O.bound S₁.os S₁.gens hm nw₁.1 nw₁.2 (Heap.UpToSlots.of_keeps fun b o e => hm.keeps b o (S₁.keep b o e))⟩
  erw [r₁.length, q]; erw [sizeLine_eq]; decide
end
end Mine
end
section
open PySem PyProof.Rows PySem.SeqAt
namespace Mine
noncomputable def baseM : List Value := [.type "ValueError", .type "Exception", .type "BaseException", .type "object"]
inductive TailC (h : Heap) : List Value -> Prop
  | base : TailC h baseM
  | own {A : Addr} {c0 : Value} {dd : Option Addr} {cd : ClassData} {sl : Array (Option Value)} {mA : Str -> Option Value} {tl : List Value} :
      h.get? A = some { cls := c0, dict := dd, data := .cls cd, slots := sl } -> h.Ns cd.ns mA -> mA "__class__" = none -> TailC h tl -> TailC h (.ref A :: tl)
theorem TailC.has {h : Heap} {l : List Value} (T : TailC h l) {X : String} (hb : baseM.contains (.type X) = true) : l.contains (.type X) = true := by
  induction T with
  | base => exact hb
  | own _ _ _ _ ih => erw [List.contains_cons, ih]; rfl
theorem c8v : lookupAlong baseM "__class__" = pure (some (.builtin "object.__class__")) := by
  have h : typeLookup (.type "ValueError") "__class__" = pure (some (.builtin "object.__class__")) := by erw [typeLookup_type, builtinLookup_eq_fast]; kernel_rfl
  rw [typeLookup_eq, PySem.F.excBase_ValueError.mroIs] at h; exact h
structure XA where
  nm : Str
  q : Str
  N : Addr
  bs : List Value
  hdct : Bool
  sn : List Str
  sub : List Value
  ab : Bool
  col : Option Bool
  dd : Option Addr
  k0 : Option Value
  k1 : Option Value
  k2 : Option Value
  k3 : Option Value
  k5 : Option Value
  newId : String
noncomputable abbrev xObj (x : XA) (C : Addr) (bm : List Value) : Obj := excClassObj x.nm x.q C x.N x.bs bm x.hdct x.sn x.sub x.ab x.col x.dd x.k0 x.k1 x.k2 x.k3 x.k5 x.newId
section
variable {prog : Program} {w : World} {A : Around} {E : Value -> Shared -> Prop} {h : Heap} {g : Array GenState} {d : Drawn} {t : Nat} {os : OsState} {a C : Addr} {o : Obj} {xa : XA} {bm : List Value}
theorem c8w {M : Model} {l : List Value} {Q : Option Value -> Shared -> Prop} (T : TailC h l) (hq : Q (some (.builtin "object.__class__")) ⟨h, g, d, t, os⟩) : wpAny M A (lookupAlong l "__class__") Q E ⟨h, g, d, t, os⟩ := by
  induction T with
  | base => erw [c8v]; exact wpAny_pure hq
  | own hA hN hni _ ih =>
    erw [lookupAlong_cons]
    refine wpAny_bind (wpAny_classOwn_cls hA hN ?_)
    erw [hni]
    exact ih
theorem lk_own {M : Model} {Q : Option Value -> Shared -> Prop} (hC : h.get? C = some (xObj xa C bm)) (T : TailC h (.ref C :: bm)) (hq : Q (some (.builtin "object.__class__")) ⟨h, g, d, t, os⟩) : wpAny M A (typeLookup (.ref C) "__class__") Q E ⟨h, g, d, t, os⟩ := by
  erw [typeLookup_eq]
  exact wpAny_bind (wpAny_mroOf_exc hC (c8w T hq))
theorem xc_get {R : Result -> Shared -> Prop} (hC : h.get? C = some (xObj xa C bm)) (T : TailC h (.ref C :: bm)) (hx : h.get? a = some o) (hc : o.cls = .ref C) (hq : R (.ok (.ret (.ref C))) ⟨h, g, d, t, os⟩) :
    codeAny (model prog w) A (.call (.builtin "getset_descriptor.__get__") ⟨[.builtin "object.__class__", .ref a, .ref C], []⟩) R ⟨h, g, d, t, os⟩ := by
  have hT5 : (⟨h, g, d, t, os⟩ : Shared).TypeIs (.builtin "object.__class__") "getset_descriptor" := PySem.F.typeOf_object_class
  have hcB : (Value.ref C :: bm).contains (.type (".".intercalate ("object.__class__".cutAt '.').dropLast)) = true := by
    erw [PySem.F.owner_object_class]; exact T.has (by decide)
  refine codeAny_call_builtin PySem.F.slot_gs_get.plain PySem.F.entry_gs_get (PySem.F.slot_gs_get.check _ _ _ _ _ _ _ _ hT5 (PySem.F.args_gs_get _ _ _) ?_)
  repeat (any_goals (first | assumption | (with_reducible refine wpAny_loadPart_at hx ?_; erw [hc]) | (with_reducible refine wpAny_isSubtype_exc hC ?_; erw [hcB]) | wp_step))
  refine ⟨Code.quiet_builtin _ (by decide +kernel), codeAny_builtin PySem.F.entry_object_class ?_⟩
  repeat (any_goals (first | assumption | (with_reducible refine wpAny_loadPart_at hx ?_; erw [hc]) | wp_step))
theorem c4j {tk : Tok} {Q : PySem.Fin -> Shared -> Prop} (hC : h.get? C = some (xObj xa C bm)) (T : TailC h (.ref C :: bm)) (hx : h.get? a = some o) (hc : o.cls = .ref C) (hq : Q (.done (.ret (.ref C))) ⟨h, g, d, t, os⟩) :
    wpAny (model prog w) A (Builtin.«object.__getattribute__» ⟨[.ref a, .str "__class__" tk], []⟩) Q E ⟨h, g, d, t, os⟩ := by
  have hT5 : (⟨h, g, d, t, os⟩ : Shared).TypeIs (.builtin "object.__class__") "getset_descriptor" := PySem.F.typeOf_object_class
  have f5 := PySem.F.typeOf_object_class
  have f6 := PySem.F.slot_gs_get.lookup
  have f7 := PySem.F.slot_gs_set.lookup
  repeat (any_goals (first | assumption | (with_reducible refine wpAny_loadPart_at hx ?_; erw [hc]) | with_reducible refine lk_own hC T ?_ | wp_step))
  refine xc_get hC T hx hc ?_
  repeat (any_goals (first | assumption | wp_step))
theorem c4k {M : Model} {nameV : Value} {Q : Unit -> Shared -> Prop} (hC : h.get? C = some (xObj xa C bm)) (T : TailC h (.ref C :: bm)) (hx : h.get? a = some o) (hc : o.cls = .ref C) (hq : Q () ⟨h, g, d, t, os⟩) :
    wpAny M A (checkBuiltinCall "BaseException.__getattribute__" ⟨[.ref a, nameV], []⟩) Q E ⟨h, g, d, t, os⟩ := by
  have hk : builtinKind "BaseException.__getattribute__" = some .slot := by decide +kernel
  have hsplit : splitId "BaseException.__getattribute__" = some ("BaseException", "__getattribute__") := by decide +kernel
  have hcB : (Value.ref C :: bm).contains (.type "BaseException") = true := T.has (by decide)
  have ha := PySem.F.args_bexc_ga (.ref a) nameV
  simp only [checkBuiltinCall, hk, hsplit]
  refine wpAny_bind ?_
  unfold isInstance
  repeat (first | (with_reducible refine wpAny_loadPart_at hx ?_; erw [hc]) | (with_reducible refine wpAny_isSubtype_exc hC ?_; erw [hcB]) | wp_step)
  exact hq
theorem c8x {tk : Tok} {R : Result -> Shared -> Prop} (hC : h.get? C = some (xObj xa C bm)) (T : TailC h (.ref C :: bm)) (hx : h.get? a = some o) (hc : o.cls = .ref C) (hq : R (.ok (.ret (.ref C))) ⟨h, g, d, t, os⟩) :
    codeAny (model prog w) A (.call (.builtin "BaseException.__getattribute__") ⟨[.ref a, .str "__class__" tk], []⟩) R ⟨h, g, d, t, os⟩ :=
  codeAny_call_builtin PySem.F.attrBase_ValueError.ga.plain PySem.F.entry_bexc_ga (c4k hC T hx hc (c4j hC T hx hc hq))
variable {mN : Str -> Option Value}
theorem xc_by {tk : Tok} {Q : Value -> Shared -> Prop} (hC : h.get? C = some (xObj xa C bm)) (hN : h.Ns xa.N mN) (hmN : ∀ n ∈ quietNames, mN n = none) (TQ : OwnTailQ h baseM bm) (T : TailC h (.ref C :: bm)) (hx : h.get? a = some o) (hc : o.cls = .ref C) (hq : Q (.ref C) ⟨h, g, d, t, os⟩) :
    wpAny (model prog w) A (getAttrBy (.ref a) (.str "__class__" tk) false) Q E ⟨h, g, d, t, os⟩ := by
  have f3 := PySem.F.attrBase_ValueError.ga.bind (.ref a)
  have hx2 : (Value.builtin "BaseException.__getattribute__" == Value.builtin "object.__getattribute__") = false := by decide +kernel
  have hx1 : (onTheHeap (Value.ref C) && Value.builtin "BaseException.__getattribute__" == Value.builtin "object.__getattribute__") = false := by erw [hx2]; rfl
  have hm1 : ("__getattribute__" : Str) ∈ quietNames := .tail _ (.head _)
  have hm2 : ("__getattr__" : Str) ∈ quietNames := .tail _ (.tail _ (.head _))
  repeat (any_goals (first | assumption | (with_reducible refine wpAny_loadPart_at hx ?_; erw [hc]) | with_reducible refine wpAny_typeLookup_tailQ hm1 hC hN hmN TQ PySem.F.attrBase_ValueError.mro PySem.F.attrBase_ValueError.ga.lookup ?_ | with_reducible refine wpAny_typeLookup_tailQ hm2 hC hN hmN TQ PySem.F.attrBase_ValueError.mro PySem.F.attrBase_ValueError.noGetattr ?_ | wp_step))
  refine c8x hC T hx hc ?_
  repeat (any_goals (first | assumption | wp_step))
theorem c8y {Q : Option Value -> Shared -> Prop} (hC : h.get? C = some (xObj xa C bm)) (hN : h.Ns xa.N mN) (hmN : ∀ n ∈ quietNames, mN n = none) (TQ : OwnTailQ h baseM bm) (T : TailC h (.ref C :: bm)) (hx : h.get? a = some o) (hc : o.cls = .ref C) (hq : Q (some (.ref C)) ⟨h, g, d, t + 1, os⟩) :
    wpAny (model prog w) A (getAttr? (.ref a) "__class__") Q E ⟨h, g, d, t, os⟩ := by
  unfold getAttr? getAttrBy?
  repeat (any_goals (first | assumption | with_reducible apply xc_by hC hN hmN TQ T hx hc | wp_step))
theorem c4l {C2 : Addr} {dd2 : Option Addr} {cd2 : ClassData} {sl2 : Array (Option Value)} {dep : Int} {tk : Tok} {Q : PySem.Fin -> Shared -> Prop} (hC : h.get? C = some (xObj xa C bm)) (hN : h.Ns xa.N mN) (hmN : ∀ n ∈ quietNames, mN n = none) (TQ : OwnTailQ h baseM bm) (T : TailC h (.ref C :: bm)) (hx : h.get? a = some o) (hc : o.cls = .ref C)
    (h2 : h.get? C2 = some { cls := .type "type", dict := dd2, data := .cls cd2, slots := sl2 }) (hcl : (Value.ref C == Value.ref C2) = false) (hct : (Value.ref C :: bm).contains (.ref C2) = false) (hq : Q (.done (.ret (.bool false))) ⟨h, g, d, t + 1, os⟩) :
    wpAny (model prog w) A (Builtin.«isinstance.nested» ⟨[.ref a, .ref C2, .int dep tk], []⟩) Q E ⟨h, g, d, t, os⟩ := by
  have hT2 : (⟨h, g, d, t, os⟩ : Shared).TypeIs (.ref C2) "type" := ⟨_, h2, rfl⟩
  have hTC : (⟨h, g, d, t, os⟩ : Shared).TypeIs (.ref C) "type" := ⟨_, hC, rfl⟩
  have hTC' : (⟨h, g, d, t + 1, os⟩ : Shared).TypeIs (.ref C) "type" := ⟨_, hC, rfl⟩
  repeat (any_goals (first | assumption | (with_reducible refine wpAny_loadPart_at hx ?_; erw [hc]) | (with_reducible refine wpAny_isSubtype_exc hC ?_; erw [hct]) | with_reducible apply c8y hC hN hmN TQ T hx hc | wp_step))
theorem c8z {C2 : Addr} {dd2 : Option Addr} {cd2 : ClassData} {sl2 : Array (Option Value)} {dep : Int} {tk : Tok} {Q : PySem.Fin -> Shared -> Prop} (hC : h.get? C = some (xObj xa C bm)) (hx : h.get? a = some o) (hc : o.cls = .ref C)
    (h2 : h.get? C2 = some { cls := .type "type", dict := dd2, data := .cls cd2, slots := sl2 }) (hct : (Value.ref C :: bm).contains (.ref C2) = true) (hq : Q (.done (.ret (.bool true))) ⟨h, g, d, t, os⟩) :
    wpAny (model prog w) A (Builtin.«isinstance.nested» ⟨[.ref a, .ref C2, .int dep tk], []⟩) Q E ⟨h, g, d, t, os⟩ := by
  have hT2 : (⟨h, g, d, t, os⟩ : Shared).TypeIs (.ref C2) "type" := ⟨_, h2, rfl⟩
  cases hcl : (Value.ref C == Value.ref C2) <;>
  repeat (any_goals (first | assumption | (with_reducible refine wpAny_loadPart_at hx ?_; erw [hc]) | (with_reducible refine wpAny_isSubtype_exc hC ?_; erw [hct]) | wp_step))
theorem c9a {X : String} {dep : Int} {tk : Tok} {Q : PySem.Fin -> Shared -> Prop} (hC : h.get? C = some (xObj xa C bm)) (hx : h.get? a = some o) (hc : o.cls = .ref C)
    (hty : typeOf (.type X) = pure (.type "type")) (hct : (Value.ref C :: bm).contains (.type X) = true) (hq : Q (.done (.ret (.bool true))) ⟨h, g, d, t, os⟩) :
    wpAny (model prog w) A (Builtin.«isinstance.nested» ⟨[.ref a, .type X, .int dep tk], []⟩) Q E ⟨h, g, d, t, os⟩ := by
  repeat (any_goals (first | assumption | (with_reducible refine wpAny_loadPart_at hx ?_; erw [hc]) | (with_reducible refine wpAny_isSubtype_exc hC ?_; erw [hct]) | wp_step))
end
end Mine
end
section
open PySem PyProof.Rows PySem.SeqAt
namespace Mine
structure OneX (gl : Str -> Option Value) (h : Heap) (x : String) (C : Addr) (tl : List Value) : Prop where
  at_ : gl (Str.ofString x) = some (.ref C)
  obj : ∃ (xa : XA) (mN : Str -> Option Value), h.get? C = some (xObj xa C tl) /\ h.Ns xa.N mN /\ (∀ n ∈ quietNames, mN n = none) /\ mN "__class__" = none
noncomputable def a2a : List String := ["BadRule", "BadRow", "TooWide", "NoBack", "BadText"]
structure XW (gl : Str -> Option Value) (h : Heap) (CR : Addr) : Prop where
  row : OneX gl h "RowError" CR baseM
  sub : ∀ x ∈ a2a, ∃ C, OneX gl h x C (.ref CR :: baseM) /\ C ≠ CR
  dis : ∀ x ∈ a2a, ∀ y ∈ a2a, x ≠ y -> gl (Str.ofString x) ≠ gl (Str.ofString y)
theorem OneX.keeps {gl : Str -> Option Value} {h h' : Heap} {x : String} {C : Addr} {tl : List Value} (o : OneX gl h x C tl) (hk : ∀ b o, h.get? b = some o -> h'.get? b = some o) : OneX gl h' x C tl :=
  let ⟨xa, mN, h1, h2, h3, h4⟩ := o.obj
  ⟨o.at_, xa, mN, hk _ _ h1, h2.keeps hk, h3, h4⟩
theorem XW.keeps {gl : Str -> Option Value} {h h' : Heap} {CR : Addr} (x : XW gl h CR) (hk : ∀ b o, h.get? b = some o -> h'.get? b = some o) : XW gl h' CR :=
  ⟨x.row.keeps hk, fun y hy => let ⟨C, o, n⟩ := x.sub y hy; ⟨C, o.keeps hk, n⟩, x.dis⟩
theorem XW.tailC {gl : Str -> Option Value} {h : Heap} {CR : Addr} (x : XW gl h CR) : TailC h (.ref CR :: baseM) := by
  refine a4a x.row.obj fun xa mN h1 h2 h3 h4 => ?_
  exact .own h1 h2 h4 .base
theorem XW.tailQ {gl : Str -> Option Value} {h : Heap} {CR : Addr} (x : XW gl h CR) : OwnTailQ h baseM (.ref CR :: baseM) := by
  refine a4a x.row.obj fun xa mN h1 h2 h3 h4 => ?_
  exact .own h1 h2 h3 .base
section
variable {prog : Program} {w : World} {A : Around} {E : Value -> Shared -> Prop} {s : Shared} {gl : Str -> Option Value} {CR C : Addr} {c y : String} {e : Addr} {oe : Obj}
theorem a4m {C D CR : Addr} : (Value.ref C :: Value.ref CR :: baseM).contains (.ref D) = (decide (D = C) || decide (D = CR)) := by
  have h3 : baseM.contains (.ref D) = false := rfl
  have hr : ∀ a b : Addr, (Value.ref a == Value.ref b) = decide (a = b) := fun a b => by
    rw [Bool.eq_iff_iff, beq_iff_eq, decide_eq_true_eq]
    exact ⟨fun h => by injection h, fun h => by erw [h]⟩
  erw [List.contains_cons, List.contains_cons, h3, hr, hr, Bool.or_false]
theorem c9b (x : XW gl s.heap CR) (oc : OneX gl s.heap c C (.ref CR :: baseM)) (hne : C ≠ CR) (hy : y ∈ a2a) (hcm : c ∈ a2a) (ho : s.heap.get? e = some oe) (hc : oe.cls = .ref C) {Q : Value -> Shared -> Prop}
    (hq : ∀ t, Q (.bool (decide (y = c))) { s with toks := t }) : ∃ D, gl (Str.ofString y) = some (.ref D) /\ wpAny (model prog w) A (call (.builtin "isinstance") [.ref e, .ref D]) Q E s := by
  refine xEA (x.sub y hy) fun D od hD => ?_
  refine ⟨D, od.at_, ?_⟩
  refine a4a oc.obj fun xa mN h1 h2 h3 h4 => ?_
  refine a4a od.obj fun xb mN' g1 g2 g3 g4 => ?_
  obtain ⟨hp, g, d, tk, os⟩ := s
  by_cases hyc : y = c
  . subst hyc
    have hCD : C = D := by have := oc.at_.symm.trans od.at_; injection this with this; injection this
    subst hCD
    refine call_isinstance (S := fun ζ R s => s.heap = hp /\ R (.ok (.ret (.bool true))) s) (fun ζ ζ ζ ζ s hs => ?_) ⟨rfl, by have := hq tk; rw [decide_eq_true rfl] at this; exact this⟩
    obtain ⟨hp', g', d', t', os'⟩ := s
    obtain ⟨rfl, hs⟩ := hs
    exact isinstance_outer (c8z h1 ho hc g1 (by erw [a4m, decide_eq_true rfl]; rfl) hs) (by intro h; cases h)
  . have hCD : D ≠ C := fun h => by subst h; exact x.dis y hy c hcm hyc (od.at_.trans oc.at_.symm)
    refine call_isinstance (S := fun ζ R s => s.heap = hp /\ R (.ok (.ret (.bool false))) { s with toks := s.toks + 1 }) (fun ζ ζ ζ ζ s hs => ?_) ⟨rfl, by have := hq (tk + 1); rw [decide_eq_false hyc] at this; exact this⟩
    obtain ⟨hp', g', d', t', os'⟩ := s
    obtain ⟨rfl, hs⟩ := hs
    exact isinstance_outer (c4l h1 h2 h3 x.tailQ (.own h1 h2 h4 x.tailC) ho hc g1 (by rw [beq_eq_false_iff_ne]; intro h; injection h with h; exact hCD h.symm) (by erw [a4m, decide_eq_false hCD, decide_eq_false hD]; rfl) hs) (by intro h; cases h)
theorem c9c (oc : OneX gl s.heap c C (.ref CR :: baseM)) (ho : s.heap.get? e = some oe) (hc : oe.cls = .ref C) {Q : Value -> Shared -> Prop} (hq : Q (.bool true) s) : wpAny (model prog w) A (call (.builtin "isinstance") [.ref e, .type "ValueError"]) Q E s := by
  refine a4a oc.obj fun xa mN h1 h2 h3 h4 => ?_
  obtain ⟨hp, g, d, tk, os⟩ := s
  refine call_isinstance (S := fun ζ R s => s.heap = hp /\ R (.ok (.ret (.bool true))) s) (fun ζ ζ ζ ζ s hs => ?_) ⟨rfl, hq⟩
  obtain ⟨hp', g', d', t', os'⟩ := s
  obtain ⟨rfl, hs⟩ := hs
  exact isinstance_outer (c9a h1 ho hc (by kernel_rfl) rfl hs) (by intro h; cases h)
theorem xm_row {M : Model} (x : XW gl s.heap CR) (oc : OneX gl s.heap c C (.ref CR :: baseM)) (ho : s.heap.get? e = some oe) (hc : oe.cls = .ref C) {Q : Bool -> Shared -> Prop} (hq : Q true s) : wpAny M A (excMatches (.ref e) (.ref CR)) Q E s := by
  refine a4a oc.obj fun xa mN h1 h2 h3 h4 => ?_
  refine a4a x.row.obj fun xb mN' g1 g2 g3 g4 => ?_
  obtain ⟨hp, g, d, tk, os⟩ := s
  have f := tc_notTuple
  have hcB : (Value.ref CR :: baseM).contains (.type "BaseException") = true := rfl
  have hcC : (Value.ref C :: Value.ref CR :: baseM).contains (.ref CR) = true := by erw [a4m, decide_eq_true (rfl : CR = CR), Bool.or_true]
  unfold excMatches
  repeat (first | (with_reducible refine wpAny_loadPart_at ho ?_; erw [hc]) | with_reducible refine wpAny_loadPart_at g1 ?_ | (with_reducible refine wpAny_isSubtype_exc g1 ?_; erw [hcB]) | (with_reducible refine wpAny_isSubtype_exc h1 ?_; erw [hcC]) | wp_step)
  exact hq
end
end Mine
end
section
open PySem PyProof.Rows PySem.SeqAt
namespace Mine
inductive SRel : Value -> D -> Prop
  | none : SRel .none .none
  | bool (b : Bool) : SRel (.bool b) (.bool b)
  | int (i : Int) (t : Tok) : SRel (.int i t) (.int i)
  | str (x : Str) (t : Tok) : SRel (.str x t) (.str x)
theorem SRel.rel {gl : Str -> Option Value} {h : Heap} {F : Addr -> Prop} {v : Value} {x : D} (r : SRel v x) : DRel gl h F v x := by
  cases r with
  | none => exact .none
  | bool b => exact .bool b
  | int i t => exact .int i t
  | str x t => exact .str x t
structure HX (W : World0) (n : Nat) (X : Cx) (names : List Str) (ρ : List (Option V)) (s : Shared) (e : Addr) (c : String) : Prop where
  S : St W.gl X names ρ [.dead] (fun a => a = X.env.locals) [e] s
  dep : X.A.depth + n < recursionLimit
  ex : ∃ CR C oe, XW W.gl X.hB CR /\ OneX W.gl X.hB c C (.ref CR :: baseM) /\ C ≠ CR /\ s.heap.get? e = some oe /\ oe.cls = .ref C /\ ∃ ws, oe.data = .fields ws
noncomputable def HQ (L : Addr) (x : D) (s : Shared) (v : Value) (s' : Shared) : Prop := SRel v x /\ Kept L s s'
noncomputable def TH (W : World0) (n : Nat) (ex : CE) (ρ : List (Option V)) (e : Addr) (c : String) (x : D) : Prop :=
  ∀ names sc E, isE names sc ex E = true -> ∀ X : Cx, KindsOk X.env sc -> W.ok X.hB -> ∀ s, HX W n X names ρ s e c -> wpAny (model W.p W.w) X.A (eval E X.env) (HQ X.env.locals x s) (fun ζ ζ => False) s
section
variable {W : World0} {n : Nat} {X : Cx} {names : List Str} {ρ : List (Option V)} {s : Shared} {e : Addr} {c : String} {sc : Scope}
theorem HX.kept (H : HX W n X names ρ s e c) {s' : Shared} (k : Kept X.env.locals s s') : HX W n X names ρ s' e c := by
  refine c2r H.ex fun CR C oe h1 h2 h3 h4 h5 => ?_
  exact ⟨H.S.kept k, H.dep, CR, C, oe, h1, h2, h3, k.obj e oe (fun h => H.S.locA (h ▸ .head _)) h4, h5⟩
theorem HX.load (H : HX W n X names ρ s e c) (hk : KindsOk X.env sc) {i : Nat} {E : Expr} {val : V} (he : isE names sc (.var i) E = true) (hv : ρ[i]? = some (some val)) {Q : Value -> Shared -> Prop} {EE : Value -> Shared -> Prop} (q : ∀ v, VRel W.gl s.heap (fun a => a = X.env.locals) X.Φ [e] v val -> Q v s) : wpAny (model W.p W.w) X.A (eval E X.env) Q EE s := by
  replace he := a8e he; obtain ⟨x, pos, rfl, he⟩ := he
  simp only [b7j, Bool.and_eq_true, Bool.not_eq_true', beq_iff_eq] at he
  obtain ⟨⟨⟨h1, h2⟩, h3⟩, h4⟩ := he
  exact wpAny_Name (H.S.load hk h1 h2 hv h4 q) h3
theorem TH.isi {i : Nat} {y : String} (hW : WOk W) (hv : ρ[i]? = some (some (.r 0))) (hy : y ∈ a2a) (hc : c ∈ a2a) : TH W n (.isi (.var i) y) ρ e c (.bool (decide (y = c))) := fun names sc E he X hk hw s H => by
  replace he := b0k he; obtain ⟨f, px, a, yy, py, pos, rfl, he⟩ := he
  simp only [Bool.and_eq_true] at he
  refine a6q H.ex fun CR C oe xw oc hne ho hcls ws hdat => ?_
  have kp := H.S.keep
  refine xEA (c9b (prog := W.p) (w := W.w) (A := X.A) (E := fun ζ ζ => False) (s := s) (y := y) (Q := HQ X.env.locals (.bool (decide (y = c))) s) (xw.keeps kp) (oc.keeps kp) hne hy hc ho hcls fun t => ⟨.bool _, .toks⟩) fun D hD run => ?_
  refine Call_ (a2h hW hk hw H.S (f := "isinstance") (by decide) he.1.1 (v := .builtin "isinstance") (by decide +kernel) (by decide) ?_)
  refine callWith_builtin1 (args_cons (H.load hk he.1.2 hv fun v r => ?_) (a0m he.1.2 _ _)) (a0m he.1.2 _ _) rfl
  cases r with
  | r ha =>
    cases ha
    exact args_cons (a4g hk hw H.S he.2 hD (args_nil run)) rfl
theorem TH.isiV {i : Nat} (hW : WOk W) (hv : ρ[i]? = some (some (.r 0))) : TH W n (.isi (.var i) "ValueError") ρ e c (.bool true) := fun names sc E he X hk hw s H => by
  replace he := b0k he; obtain ⟨f, px, a, yy, py, pos, rfl, he⟩ := he
  simp only [Bool.and_eq_true] at he
  refine a6q H.ex fun CR C oe xw oc hne ho hcls ws hdat => ?_
  refine Call_ (a2h hW hk hw H.S (f := "isinstance") (by decide) he.1.1 (v := .builtin "isinstance") (by decide +kernel) (by decide) ?_)
  refine callWith_builtin1 (args_cons (H.load hk he.1.2 hv fun v r => ?_) (a0m he.1.2 _ _)) (a0m he.1.2 _ _) rfl
  cases r with
  | r ha =>
    cases ha
    exact args_cons (a2h hW hk hw H.S (f := "ValueError") (by decide) he.2 (v := .type "ValueError") (by decide +kernel) (by decide) (args_nil (c9c (oc.keeps H.S.keep) ho hcls ⟨.bool _, .refl⟩))) rfl
theorem TH.var {i : Nat} {b : Bool} (hv : ρ[i]? = some (some (.d (.bool b)))) : TH W n (.var i) ρ e c (.bool b) := fun names sc E he X hk hw s H =>
  H.load hk he hv fun v r => by
    have d := r.dInv
    cases d
    exact ⟨.bool _, .refl⟩
theorem TH.not {a : CE} {b : Bool} (t : TH W n a ρ e c (.bool b)) : TH W n (.not a) ρ e c (.bool !b) := fun names sc E he X hk hw s H => by
  replace he := b4f he; obtain ⟨x, pos, rfl, he⟩ := he
  show wpAny _ _ (do let v ← eval x X.env; standAt pos; holding [v] (unaryOp .Not v)) _ _ s
  refine wpAny_bind (wpAny_mono (t names sc _ he X hk hw s H) (fun v s₁ h₁ => ?_) fun ζ ζ f => f)
  obtain ⟨r, k⟩ := h₁
  cases r
  exact wpAny_bind (wpAny_standAt (wpAny_holding (not_of (wpAny_truthy_bool ⟨.bool _, k⟩))))
theorem TH.or {x y : CE} {l : List CE} {a b : Bool} (t : TH W n x ρ e c (.bool a)) (t' : TH W n (.or (y :: l)) ρ e c (.bool b)) : TH W n (.or (x :: y :: l)) ρ e c (.bool (a || b)) := fun names sc E he X hk hw s H => by
  have he' := he
  replace he := a9m he; obtain ⟨vs, pos, rfl, he⟩ := he
  replace he := a0g he; obtain ⟨v1, vs1, rfl, he⟩ := he
  simp only [Bool.and_eq_true] at he
  have h2 := he.2
  replace h2 := a0g h2; obtain ⟨v2, vs2, rfl, h2⟩ := h2
  refine BoolOp_or (wpAny_mono (t names sc _ he.1 X hk hw s H) (fun v s₁ h₁ => ?_) fun ζ ζ f => f)
  obtain ⟨r, k⟩ := h₁
  cases r
  refine wpAny_truthy_bool ?_
  cases a with
  | true => exact ⟨.bool _, k⟩
  | false => exact wpAny_mono (t' names sc _ (by exact he.2) X hk hw _ (H.kept k)) (fun ζ ζ h => ⟨h.1, k.trans h.2⟩) fun ζ ζ f => f
theorem TH.or1 {x : CE} {a : Bool} (t : TH W n x ρ e c (.bool a)) : TH W n (.or [x]) ρ e c (.bool a) := fun names sc E he X hk hw s H => by
  replace he := a9m he; obtain ⟨vs, pos, rfl, he⟩ := he
  replace he := a0g he; obtain ⟨v1, vs1, rfl, he⟩ := he
  simp only [Bool.and_eq_true] at he
  have h2 := he.2
  replace h2 := a0p h2; obtain ⟨rfl, h2⟩ := h2
  exact BoolOp_one (t names sc _ he.1 X hk hw s H)
theorem TH.and {x y : CE} {l : List CE} {a b : Bool} (t : TH W n x ρ e c (.bool a)) (t' : TH W n (.and (y :: l)) ρ e c (.bool b)) : TH W n (.and (x :: y :: l)) ρ e c (.bool (a && b)) := fun names sc E he X hk hw s H => by
  replace he := a4d he; obtain ⟨vs, pos, rfl, he⟩ := he
  replace he := a0g he; obtain ⟨v1, vs1, rfl, he⟩ := he
  simp only [Bool.and_eq_true] at he
  have h2 := he.2
  replace h2 := a0g h2; obtain ⟨v2, vs2, rfl, h2⟩ := h2
  refine BoolOp_and (wpAny_mono (t names sc _ he.1 X hk hw s H) (fun v s₁ h₁ => ?_) fun ζ ζ f => f)
  obtain ⟨r, k⟩ := h₁
  cases r
  refine wpAny_truthy_bool ?_
  cases a with
  | false => exact ⟨.bool _, k⟩
  | true => exact wpAny_mono (t' names sc _ (by exact he.2) X hk hw _ (H.kept k)) (fun ζ ζ h => ⟨h.1, k.trans h.2⟩) fun ζ ζ f => f
theorem TH.and1 {x : CE} {a : Bool} (t : TH W n x ρ e c (.bool a)) : TH W n (.and [x]) ρ e c (.bool a) := fun names sc E he X hk hw s H => by
  replace he := a4d he; obtain ⟨vs, pos, rfl, he⟩ := he
  replace he := a0g he; obtain ⟨v1, vs1, rfl, he⟩ := he
  simp only [Bool.and_eq_true] at he
  have h2 := he.2
  replace h2 := a0p h2; obtain ⟨rfl, h2⟩ := h2
  exact BoolOp_one (t names sc _ he.1 X hk hw s H)
noncomputable def HEnd (W : World0) (n : Nat) (X : Cx) (names : List Str) (e : Addr) (c : String) (x : D) (s : Shared) (f : Flow) (s' : Shared) : Prop :=
  (∃ v, f = .ret v /\ SRel v x) /\ (∃ ρ', HX W n X names ρ' s' e c) /\ ∀ a o, a ≠ X.env.locals -> (∀ x, X.env.cells.lookup x ≠ some a) -> s.heap.get? a = some o -> s'.heap.get? a = some o
noncomputable def TSH (W : World0) (n : Nat) (ss : List CS) (ρ : List (Option V)) (e : Addr) (c : String) (x : D) : Prop :=
  ∀ names sc S, isSs names sc ss S = true -> ∀ X : Cx, KindsOk X.env sc -> W.ok X.hB -> ∀ s, HX W n X names ρ s e c -> wpAny (model W.p W.w) X.A (execs S X.env) (HEnd W n X names e c x s) (fun ζ ζ => False) s
theorem TSH.asg {i : Nat} {ex : CE} {ss : List CS} {a b : D} (t : TH W n ex ρ e c a) (t' : TSH W n ss (ρ.set i (some (.d a))) e c b) (hn : a1v ex = true := by rfl) : TSH W n (.asg i ex :: ss) ρ e c b := fun names sc S he X hk hw s H => by
  replace he := a1s he; obtain ⟨x, xs, rfl, he⟩ := he
  have he := Bool.and_eq_true_iff.mp he
  have hs := he.1
  replace hs := a8f hs; obtain ⟨_, _, _, _, rfl, hs⟩ := hs
  simp only [Bool.and_eq_true] at hs
  refine wpAny_execs_cons (wpAny_Assign_Name (wpAny_mono (t names sc _ hs.2 X hk hw s H) (fun v s₁ h₁ => ?_) fun ζ ζ f => f) (a1p hs.2 hn _ _ _))
  obtain ⟨sr, kp⟩ := h₁
  have H₁ := H.kept kp
  refine H₁.S.store hk hs.1 (.d sr.rel) fun s₂ S₂ P₂ => ?_
  have nl : ∀ z, ¬ a2w [.dead] [e] z := fun z ⟨i, o, _, e2, e3⟩ => by
    cases i with
    | zero => cases e2; exact e3 rfl
    | succ i => exact dNS e2
  have hloc : e ≠ X.env.locals := fun h => H₁.S.locA (h ▸ .head _)
  refine a6q H₁.ex fun CR C oe xw oc hne ho hcls ws hdat => ?_
  have hcell : ∀ x, X.env.cells.lookup x ≠ some e := fun x hx => by
    refine a1f H₁.S.vars fun m cm ζ hcc ζ => ?_
    obtain ⟨o', e', d'⟩ := hcc x e hx
    rw [ho] at e'; cases e'
    rw [hdat] at d'; cases d'
  have ko : s₂.heap.get? e = some oe := P₂.only e oe (nl e) (fun h => h.elim hloc fun ⟨x, _, hx⟩ => hcell x hx) ho
  refine wpAny_mono (t' names sc xs he.2 X hk hw s₂ ⟨S₂, H.dep, CR, C, oe, xw, oc, hne, ko, hcls, ws, hdat⟩) (fun f s₃ h₃ => ?_) fun ζ ζ f => f
  obtain ⟨hv, h, k⟩ := h₃
  exact ⟨hv, h, fun a o h1 h2 e0 => k a o h1 h2 (P₂.only a o (nl a) (fun h => h.elim h1 fun ⟨x, _, hx⟩ => h2 x hx) (kp.obj a o h1 e0))⟩
theorem TSH.ret {ex : CE} {ss : List CS} {b : D} (t : TH W n ex ρ e c b) : TSH W n (.ret ex :: ss) ρ e c b := fun names sc S he X hk hw s H => by
  replace he := a1s he; obtain ⟨x, xs, rfl, he⟩ := he
  have he := Bool.and_eq_true_iff.mp he
  have hs := he.1
  replace hs := b4g hs; obtain ⟨_, _, rfl, hs⟩ := hs
  refine wpAny_execs_cons (wpAny_Return_some (wpAny_mono (t names sc _ hs X hk hw s H) (fun v s₁ h₁ => ?_) fun ζ ζ f => f))
  obtain ⟨sr, k⟩ := h₁
  exact ⟨⟨v, rfl, sr⟩, ⟨_, H.kept k⟩, fun a o h1 ζ e0 => k.obj a o h1 e0⟩
end
end Mine
end
section
open PySem PyProof.Rows PySem.SeqAt
namespace Mine
noncomputable def a3o (h : Heap) (L : Addr) : Heap := h.update L fun o => { o with data := .freed }
theorem a8v (h : Heap) (L : Addr) : (a3o h L).get? L = none := by
  obtain ⟨objs, l⟩ := h
  unfold a3o Heap.update Heap.get?
  simp only [Array.getElem?_modify]
  cases e : objs[L]? with
  | none => simp
  | some o => simp
theorem a3f (h : Heap) {L b : Addr} (hb : b ≠ L) : (a3o h L).get? b = h.get? b := Heap.get?_update_other h _ (Ne.symm hb)
noncomputable def FunS (W : World0) (k : Nat) (f : String) (args : List V) (x : D) : Prop :=
  ∀ A s vs Φ env₀ L hB₀ CR, Room A k -> A.frames = some [env₀] -> env₀.frame = some L -> env₀.scope.kind ≠ .module -> (∃ m, s.heap.Ns L m) -> W.ok hB₀ -> XW W.gl hB₀ CR -> (∀ b o, hB₀.get? b = some o -> s.heap.get? b = some o) -> hB₀.get? L = none ->
    (∀ a, Φ a -> used s a) -> VRels W.gl s.heap noL Φ [] vs args -> ∀ a, W.gl (Str.ofString f) = some (.ref a) ->
    (∃ o fd, s.heap.get? a = some o /\ o.data = .func fd) /\ wpAny (model W.p W.w) A (call (.ref a) vs) (fun v s' => SRel v x /\ Kept L s s') (fun ζ ζ => False) s
section
variable {W : World0} {k : Nat} {c : String} {b : D}
theorem FunS.intro {f : String} {cf : CF} {args : List V} {n : Nat} {bd hdl rest : List CS} {h0 : CS} (hf : HasF W f cf) (hlen : args.length = cf.nparams) (hbody : cf.body = .tryx bd "RowError" n (h0 :: hdl) :: rest) (hcx : c ∈ a2a)
    (tx : TX W k bd (args.map some ++ List.replicate (cf.nvars - cf.nparams) none) [] c false) (th : ∀ e m, args.length + (cf.nvars - cf.nparams) = m -> TSH W k (h0 :: hdl) ((List.replicate m none).set n (some (.r 0))) e c b) : FunS W (k + 1) f args b :=
  fun A s vs Φ env₀ L hB₀ CR hr hfr0 hL hkd hns hw0 xw hk0 hL0 hΦ rel a ha => by
    have hw : W.ok s.heap := W.keeps hw0 hk0
    obtain ⟨m0, hn0⟩ := hns
    obtain ⟨o0, es0, ep0, e0, d0, r0⟩ := id hn0
    have hbs : (a3o s.heap L).StaysIn s.heap := fun z o e => by
      by_cases h : z = L
      . subst h; rw [a8v] at e; exact dNS e
      . rw [a3f _ h] at e; exact e
    have hB0b : ∀ z o, hB₀.get? z = some o -> (a3o s.heap L).get? z = some o := fun z o e => by
      rw [a3f _ fun h => by subst h; exact dGN hL0 e]; exact hk0 z o e
    have K : Below A (a3o s.heap L) [env₀] s.heap := ⟨hfr0, hbs, hkd, ⟨L, o0, hL, a8v _ _, e0, fun vs h => by rw [d0] at h; cases h⟩, trivial⟩
    obtain ⟨ho, hc⟩ := Fun.start hf hlen hr hw hΦ rel ha (R := wants (fun v s' => SRel v b /\ Kept L s s') (fun ζ ζ => False)) fun names sc S X Λ s₁ hb hk hrx hA hB hos hgn hPh hfr St => by
      rw [hbody] at hb
      replace hb := a1s hb; obtain ⟨st, xs, rfl, hb⟩ := hb
      have hb := Bool.and_eq_true_iff.mp hb
      have h1 := hb.1
      replace h1 := c7x h1; obtain ⟨bdS, x, px, nm, hbS, hp, pos, rfl, h1⟩ := h1
      simp only [Bool.and_eq_true, beq_iff_eq] at h1
      (refine xA h1 fun ε0 g4 => ?_; obtain ⟨⟨g1, g2⟩, g3, gl⟩ := ε0)
      have g4' := g4
      replace g4' := a1s g4'; obtain ⟨b₀, suite, rfl, _⟩ := g4'
      have fo : FrameOk X (a3o s.heap L) [env₀] := ⟨by erw [hA]; exact Around.frames_deeper K.stack, hfr, hB ▸ K.stays, hB ▸ K.frames⟩
      refine wpAny_execs_cons (wpAny_Try_except (wpAny_mono (tx names sc bdS g1 X hk hrx (hB ▸ hw) _ _ fo _ _ _ St) (fun ζ ζ f => f.elim) fun e s₂ h => ?_))
      cases h with
      | made hm => exact dFT hm
      | held hm => exact dFT hm
      | flies ea C t q1 q2 q3 q4 q5 q6 q7 =>
        subst q1
        refine xEA (xw.sub c hcx) fun C' oc hne => ?_
        have hCC : C = C' := by have := q2.symm.trans oc.at_; injection this with this; injection this
        subst hCC
        have hLl : L ≠ X.env.locals := fun h => by have := St.new _ St.locL; rw [hB, ← h, e0] at this; exact dSN this
        have hlb : (a3o s.heap L).get? X.env.locals = none := by
          erw [a3f _ (Ne.symm hLl)]; have := St.new _ St.locL; rwa [hB] at this
        refine wpAny_looks_onW fo.stack hfr q5 fun h₄ hheld₄ hsm₄ => ?_
        refine wpAny_landsW hheld₄ fun h₅ hfl₅ hsm₅ => ?_
        obtain ⟨m, cm, hnm, hcm⟩ := q7
        let X' : Cx := { env := X.env, hB := a3o s.heap L, A := X.A.mark (some (.ref ea)), os := X.os, gens := X.gens, Φ := noL }
        have mk : ∀ {h' : Heap} {tk : Nat}, s₂.heap.UpToSlots h' -> Heap.FlyingW (a3o s.heap L) (X.env :: [env₀]) ea (.ref C) (.ref t) h' -> Mine.St W.gl X' names (List.replicate names.length none) [.dead] (fun a => a = X.env.locals) [ea] { s₂ with heap := h', toks := tk } := fun {h' tk} up fl => by
          have hn' := up.ns hnm
          refine a4a fl.first fun oe ws hoe ζ hoed ζ => ?_
          refine ⟨fl.1, q3, q4, fun z hz => hz ▸ hlb, fun z hz => ?_, fun z hz => hz.elim, List.nodup_cons.mpr ⟨List.not_mem_nil, .nil⟩, rfl, fun z hz => ?_, fun i z o e1 e2 e3 => ?_, rfl, fun hm => ?_, fun x z h1 h2 => ?_, by erw [List.length_replicate], m, cm, hn', fun nn cc hl => a6v (hcm nn cc hl) up, fun x i val ζ e2 => ?_⟩
          . subst hz; obtain ⟨o, es, ep, e, _⟩ := hn'; exact ⟨o, e⟩
          . cases List.mem_singleton.mp hz; exact ⟨oe, hoe⟩
          . cases i with
            | zero => cases e2; exact absurd rfl e3
            | succ i => exact dNS e2
          . have := List.mem_singleton.mp hm
            obtain ⟨o, es, ep, e, d, _⟩ := hn'
            rw [this, hoe] at e; cases e
            rw [hoed] at d; cases d
          . have hz := St.cellN x z h1 h2
            rw [hB] at hz
            cases e : (a3o s.heap L).get? z with
            | none => rfl
            | some o => rw [hbs z o e] at hz; exact dSN hz
          . exfalso
            rw [List.getElem?_replicate] at e2
            split at e2 <;> cases e2
        have hwb : W.ok (a3o s.heap L) := W.keeps hw0 hB0b
        have xwb := xw.keeps hB0b
        have ocb := oc.keeps hB0b
        have S₅ := mk (tk := s₂.toks) (hsm₄.trans hsm₅) hfl₅
        refine a4a hfl₅.first fun oe ws hoe hoec hoed ζ => ?_
        refine wpAny_handleBy_cons (codeAny_handlers_test (wpAny_mono (a4g (X := X') hk hwb S₅ g2 xw.row.at_ (Q := fun v s' => v = .ref CR /\ s' = { s₂ with heap := h₅ }) (E := fun ζ ζ => False) ⟨rfl, rfl⟩) (fun cc s₃ h₃ => ?_) fun ζ ζ f => f.elim)) (by intro h; cases h)
        obtain ⟨rfl, rfl⟩ := h₃
        refine xm_row (s := { s₂ with heap := h₅ }) (xwb.keeps hfl₅.1) (ocb.keeps hfl₅.1) hoe hoec (codeAny_handlers_suite_as ?_)
        refine lands_againW hfl₅ fun h₆ hfl₆ hsm₆ => ?_
        have S₆ := mk (tk := s₂.toks) ((hsm₄.trans hsm₅).trans hsm₆) hfl₆
        refine a4a hfl₆.first fun oe₆ ws₆ hoe₆ hoec₆ hoed₆ ζ => ?_
        have nl : ∀ z, ¬ a2w [.dead] [ea] z := fun z ⟨i, o, _, e2, e3⟩ => by
          cases i with
          | zero => cases e2; exact e3 rfl
          | succ i => exact dNS e2
        refine S₆.store (X := X') hk g3 (.r (i := 0) rfl) fun s₇ S₇ P₇ => ?_
        have hnc : ∀ x z o, X.env.cells.lookup x = some z -> h₆.get? z = some o -> (∃ v, o.data = .cell v) := fun x z o hx ho => by
          obtain ⟨o', e', d'⟩ := a6v (hcm x z hx) ((hsm₄.trans hsm₅).trans hsm₆)
          rw [ho] at e'; cases e'; exact ⟨_, d'⟩
        have hea : s₇.heap.get? ea = some oe₆ := P₇.only ea oe₆ (nl ea) (fun h => h.elim (fun h => S₆.locA (h ▸ .head _)) fun ⟨x, _, hx⟩ => by
          obtain ⟨v, hv⟩ := hnc x ea oe₆ hx hoe₆
          rw [hoed₆] at hv; cases hv) hoe₆
        refine wpAny_mono (th ea names.length (by erw [← St.rl, List.length_append, List.length_map, List.length_replicate]) names sc _ g4 X' hk hwb s₇ ⟨S₇, hrx.2.1, CR, C, oe₆, xwb, ocb, hne, hea, hoec₆, ws₆, hoed₆⟩) (fun fl s₈ h₈ => ?_) fun ζ ζ f => f.elim
        obtain ⟨⟨v₈, rfl, sr⟩, ⟨ρ₈, H₈⟩, k₈⟩ := h₈
        refine xE H₈.S.ns fun m₈ hn₈ => ?_
        refine wpAny_nameGoes (hk.loc _ gl) hn₈ (by erw [hk.kind]; rfl) fun h₉ m₉ hn₉ hs₉ => ?_
        have hLo : ∀ mL, s.heap.Ns L mL -> h₉.Ns L mL := fun mL hL => by
          have u := ((((hB ▸ q6 : s.heap.UpToSlots s₂.heap).trans hsm₄).trans hsm₅).trans hsm₆).ns hL
          have hcL : ∀ x, X.env.cells.lookup x ≠ some L := fun x hx => by
            obtain ⟨o, es, ep, e, d, _⟩ := u
            obtain ⟨v, hv⟩ := hnc x L o hx e
            rw [d] at hv; cases hv
          obtain ⟨o, es, ep, e, d, r⟩ := u
          have e7 := P₇.only L o (nl L) (fun h => h.elim hLl fun ⟨x, _, hx⟩ => hcL x hx) e
          have e8 := k₈ L o hLl hcL e7
          exact ⟨o, es, ep, hs₉.extBut L o hLl e8, d, r⟩
        refine ⟨sr, ⟨fun z o hz e => ?_, hLo, H₈.S.os.trans hos, H₈.S.gens.trans hgn⟩⟩
        have eb : (a3o s.heap L).get? z = some o := by erw [a3f _ hz]; exact e
        exact hs₉.extBut z o (fun h => by rw [h, hlb] at eb; exact dNS eb) (H₈.S.keep z o eb)
    exact ⟨ho, wpAny_call hc⟩
end
end Mine
end
section
open PySem PyProof.Rows PySem.SeqAt
namespace Mine
theorem b1a {h : Heap} {x : String} {C : Addr} (e : a5o h x = some C) : h.nsMap mainGlobals (Str.ofString x) = some (.ref C) := by
  unfold a5o at e
  split at e
  . next h1 => cases e; exact h1
  . exact dNS e
theorem c6p {W : World0} {h : Heap} (hw : W.ok h) {x : String} {C : Addr} {tl : List Value} (hx : HasX W x) (g : a5o h x = some C) (c : b1z h C tl = true) : OneX W.gl h x C tl := by
  refine xEA (hw.ownAt hx) fun C' O ζ => ?_
  have hb : W.gl (Str.ofString x) = some (.ref C') := O.bound
  have hg := congrFun (Heap.Ns.eq_nsMap hw.g) (Str.ofString x)
  have e : C = C' := by
    have := (b1a g).symm.trans (hg.symm.trans hb)
    injection this with this; injection this
  subst e
  (refine a7c O.obj fun bm N nm q bs hdct sn sub ab col dd ε0 => ?_; obtain ⟨k0, k1, k2, k3, k5, mN, hC, hN, hq, T⟩ := ε0)
  unfold b1z at c
  rw [hC] at c
  have c := Bool.and_eq_true_iff.mp c
  have c1 := beq_iff_eq.mp c.1
  injection c1 with _ c1
  subst c1
  refine ⟨hb, ⟨nm, q, N, bs, hdct, sn, sub, ab, col, dd, k0, k1, k2, k3, k5, _⟩, mN, hC, hN, hq, ?_⟩
  obtain ⟨o, es, ep, ho, hd, _, hf⟩ := hN
  have c2 : a9l h N "__class__" = true := c.2
  unfold a9l at c2
  rw [ho] at c2
  dsimp only at c2
  rw [hd] at c2
  erw [← hf]
  exact Option.isNone_iff_eq_none.mp c2
theorem b6n {h : Heap} {CR : Addr} : ∀ {xs : List String} {seen : List Addr}, b4d h CR xs seen = true -> (∀ x ∈ xs, ∃ C, a5o h x = some C /\ b1z h C (.ref CR :: topX) = true /\ C ∉ seen) /\ ∀ x ∈ xs, ∀ y ∈ xs, x ≠ y -> a5o h x ≠ a5o h y
  | [], _, _ => ⟨fun ζ h => absurd h List.not_mem_nil, fun ζ h => absurd h List.not_mem_nil⟩
  | x :: xs, seen, e => by
    unfold b4d at e
    cases g : a5o h x with
    | none => rw [g] at e; exact dFT e
    | some C =>
      rw [g] at e
      have e1 := Bool.and_eq_true_iff.mp e
      have e2 := Bool.and_eq_true_iff.mp e1.1
      have e3 : C ∉ seen := by simpa using e2.2
      refine xA (b6n e1.2) fun i1 i2 => ?_
      refine ⟨fun y hy => ?_, fun y hy z hz hne => ?_⟩
      . cases hy with
        | head => exact ⟨C, g, e2.1, e3⟩
        | tail _ hy => refine xEAA (i1 y hy) fun D d1 d2 d3 => ?_; exact ⟨D, d1, d2, fun h => d3 (.tail _ h)⟩
      . cases hy with
        | head => cases hz with
          | head => exact absurd rfl hne
          | tail _ hz => refine xEAA (i1 z hz) fun D d1 d2 d3 => ?_; erw [g, d1]; intro h; cases h; exact d3 (.head _)
        | tail _ hy => cases hz with
          | head => refine xEAA (i1 y hy) fun D d1 d2 d3 => ?_; erw [g, d1]; intro h; cases h; exact d3 (.head _)
          | tail _ hz => exact i2 y hy z hz hne
theorem xw_of {W : World0} {h : Heap} (hw : W.ok h) (hr : HasX W "RowError") (hx : ∀ x ∈ a2a, HasX W x) (e : xOk h = true) : ∃ CR, XW W.gl h CR := by
  unfold xOk at e
  cases g : a5o h "RowError" with
  | none => rw [g] at e; exact dFT e
  | some CR =>
    rw [g] at e
    have e := Bool.and_eq_true_iff.mp e
    obtain ⟨i1, i2⟩ := b6n e.2
    refine ⟨CR, c6p hw hr g e.1, fun x hm => ?_, fun x hm y hy hne hg => ?_⟩
    . refine xEAA (i1 x hm) fun C g1 g2 g3 => ?_
      exact ⟨C, c6p hw (hx x hm) g1 g2, fun h => g3 (h ▸ .head _)⟩
    . refine i2 x hm y hy hne ?_
      refine xEA (i1 x hm) fun C g1 ζ => ?_
      refine xEA (i1 y hy) fun D d1 ζ => ?_
      have hgl := Heap.Ns.eq_nsMap hw.g
      rw [hgl, b1a g1, b1a d1] at hg
      injection hg with hg; injection hg with hg
      erw [g1, d1, hg]
end Mine
end
section
open PySem PyProof.Rows PySem.SeqAt
namespace Mine
structure OuterOk (W : World0) (X : Cx) : Prop where
  fr : X.A.frames = some [X.env]
  loc : X.env.frame = some X.env.locals
  xw : ∃ CR, XW W.gl X.hB CR
section
variable {W : World0} {k : Nat} {ρ : List (Option V)} {σ : List O} {b c : Bool}
end
section
variable {W : World0} {k : Nat} {ρ : List (Option V)} {σ : List O} {c : String} {mm : Bool}
theorem EX.callV {f : String} {cf : CF} {es : List CE} {vs args : List V} {tape : List D} {cs : List Prop} (hf : HasF W f cf) (h : pvs W k σ ρ es [] tape = some (vs, cs, [])) (hc : AllP cs) (ha : b9z σ vs = some args) (hne : (!vs.isEmpty) = true) (F : FunR W k f args c) : EX W k (.call f es) ρ σ c mm :=
  EX.call hf (c6m es h hne) ((a8s es h hc).2.to ⟨args, a4y ha, F⟩)
end
end Mine
end
section
open PySem PyProof.Rows PySem.SeqAt
namespace Mine
noncomputable def TEO (W : World0) (k : Nat) (e : CE) (ρ : List (Option V)) (σ : List O) (Q : V -> List O -> Prop) : Prop :=
  ∀ names sc E, isE names sc e E = true -> ∀ X : Cx, KindsOk X.env sc -> Room X.A k -> W.ok X.hB -> OuterOk W X -> ∀ Λ ad s, St W.gl X names ρ σ Λ ad s ->
    wpAny (model W.p W.w) X.A (eval E X.env) (Post W.gl X names ρ σ Λ ad s Q) (fun ζ ζ => False) s
noncomputable def TCO (W : World0) (k : Nat) (e : CE) (ρ : List (Option V)) (σ : List O) (Q : Bool -> List O -> Prop) : Prop :=
  ∀ names sc E, isE names sc e E = true -> ∀ X : Cx, KindsOk X.env sc -> Room X.A k -> W.ok X.hB -> OuterOk W X -> ∀ Λ ad s, St W.gl X names ρ σ Λ ad s ->
    wpAny (model W.p W.w) X.A (isTrue E X.env (eval E X.env)) (PostC W.gl X names ρ σ Λ ad s Q) (fun ζ ζ => False) s
noncomputable def TS1O (W : World0) (k : Nat) (c : CS) (ρ : List (Option V)) (σ : List O) (Q : Out -> List (Option V) -> List O -> Prop) : Prop :=
  ∀ names sc S, isS names sc c S = true -> ∀ X : Cx, KindsOk X.env sc -> Room X.A k -> W.ok X.hB -> OuterOk W X -> ∀ Λ ad s, St W.gl X names ρ σ Λ ad s ->
    wpAny (model W.p W.w) X.A (exec S X.env) (PostS W.gl X names σ Λ ad s Q) (fun ζ ζ => False) s
noncomputable def TSO (W : World0) (k : Nat) (ss : List CS) (ρ : List (Option V)) (σ : List O) (Q : Out -> List (Option V) -> List O -> Prop) : Prop :=
  ∀ names sc S, isSs names sc ss S = true -> ∀ X : Cx, KindsOk X.env sc -> Room X.A k -> W.ok X.hB -> OuterOk W X -> ∀ Λ ad s, St W.gl X names ρ σ Λ ad s ->
    wpAny (model W.p W.w) X.A (execs S X.env) (PostS W.gl X names σ Λ ad s Q) (fun ζ ζ => False) s
noncomputable def FunD (W : World0) (k : Nat) (f : String) (args : List V) (r : D) : Prop :=
  ∀ A s vs Φ env₀ L hB₀ CR, Room A k -> A.frames = some [env₀] -> env₀.frame = some L -> env₀.scope.kind ≠ .module -> (∃ m, s.heap.Ns L m) -> W.ok hB₀ -> XW W.gl hB₀ CR -> (∀ b o, hB₀.get? b = some o -> s.heap.get? b = some o) -> hB₀.get? L = none ->
    (∀ a, Φ a -> used s a) -> VRels W.gl s.heap noL Φ [] vs args -> ∀ a, W.gl (Str.ofString f) = some (.ref a) ->
    wpAny (model W.p W.w) A (call (.ref a) vs) (fun v s' => (∀ F, DRel W.gl s'.heap F v r) /\ Kept L s s') (fun ζ ζ => False) s
section
variable {W : World0} {k : Nat} {ρ : List (Option V)} {σ : List O}
theorem TEO.of {e : CE} {Q : V -> List O -> Prop} (t : TE W k e ρ σ Q) : TEO W k e ρ σ Q := fun names sc E he X hk hr hw ζ Λ ad s S => t names sc E he X hk hr hw Λ ad s S
theorem TCO.of {e : CE} {Q : Bool -> List O -> Prop} (t : TC W k e ρ σ Q) : TCO W k e ρ σ Q := fun names sc E he X hk hr hw ζ Λ ad s S => t names sc E he X hk hr hw Λ ad s S
theorem TSO.of {c : List CS} {Q : Out -> List (Option V) -> List O -> Prop} (t : TS W k c ρ σ Q) : TSO W k c ρ σ Q := fun names sc S he X hk hr hw ζ Λ ad s St => t names sc S he X hk hr hw Λ ad s St
theorem FunS.toD {f : String} {args : List V} {x : D} (h : FunS W k f args x) : FunD W k f args x := fun A s vs Φ env₀ L hB₀ CR h1 h2 h3 h4 h5 h6 h7 h8 h9 h10 h11 a ha =>
  wpAny_mono (h A s vs Φ env₀ L hB₀ CR h1 h2 h3 h4 h5 h6 h7 h8 h9 h10 h11 a ha).2 (fun v s' h => ⟨fun F => h.1.rel, h.2⟩) fun ζ ζ f => f
theorem TEO.callD {f : String} {cf : CF} {es : List CE} {r : D} {Q : V -> List O -> Prop} (hf : HasF W f cf) (hne : es ≠ []) (t : TEs W k es ρ σ fun vals σ' => (∃ args, ArgsOk σ' vals args /\ FunD W k f args r) /\ Q (.d r) σ') : TEO W k (.call f es) ρ σ Q := fun names sc E he X hk hr hw ho Λ ad s S => by
  replace he := a7t he; obtain ⟨_, _, _, _, rfl, he⟩ := he
  simp only [Bool.and_eq_true] at he
  refine a7u hf hne he.1.1 he.1.2 hk hr hw S t fun a vs s₁ vals σ₁ Λ₁ ad₁ hg S₁ P₁ r₁ q => ?_
  obtain ⟨⟨args, ha, F⟩, q⟩ := q
  obtain ⟨CR, xw⟩ := ho.xw
  refine wpAny_mono (F X.A s₁ vs (Un Λ₁ X.Φ) X.env X.env.locals X.hB CR hr ho.fr ho.loc (by erw [hk.kind]; intro h; cases h) S₁.ns hw xw S₁.keep (S₁.new _ S₁.locL) S₁.usedF (b0p S₁ r₁ ha) a hg) (fun v s' h => ?_) fun ζ ζ f => f
  exact ⟨.d r, σ₁, Λ₁, ad₁, S₁.kept h.2, P₁.trans (.of_kept S₁ h.2), .d (h.1 _), q⟩
variable {Q : Out -> List (Option V) -> List O -> Prop}
theorem TSO.nil (q : Q .next ρ σ) : TSO W k [] ρ σ Q := .of (TS.nil q)
noncomputable def thnO (W : World0) (k : Nat) (ss : List CS) (Q : Out -> List (Option V) -> List O -> Prop) : Out -> List (Option V) -> List O -> Prop := fun out ρ σ => match out with
  | .next => TSO W k ss ρ σ Q
  | .ret v => Q (.ret v) ρ σ
theorem TSO.cons {c : CS} {ss : List CS} (t : TS1O W k c ρ σ (thnO W k ss Q)) : TSO W k (c :: ss) ρ σ Q := fun names sc S he X hk hr hw ho Λ ad s St => by
  replace he := a1s he; obtain ⟨x, xs, rfl, he⟩ := he
  have he := Bool.and_eq_true_iff.mp he
  refine wpAny_execs_cons (wpAny_mono (t names sc x he.1 X hk hr hw ho Λ ad s St) (fun f s₁ h₁ => ?_) fun ζ ζ f => f.elim)
  obtain ⟨out, ρ₁, σ₁, Λ₁, ad₁, S₁, P₁, fr, q⟩ := h₁
  cases fr with
  | next => exact wpAny_mono (q names sc xs he.2 X hk hr hw ho Λ₁ ad₁ s₁ S₁) (fun f s₂ h₂ => by
      obtain ⟨out, ρ₂, σ₂, Λ₂, ad₂, S₂, P₂, fr, q⟩ := h₂
      exact ⟨out, ρ₂, σ₂, Λ₂, ad₂, S₂, P₁.trans P₂, fr, q⟩) fun ζ ζ f => f
  | ret r => exact ⟨_, ρ₁, σ₁, Λ₁, ad₁, S₁, P₁, .ret r, q⟩
theorem TS1O.ite {c : CE} {a b : List CS} (t : TCO W k c ρ σ fun v σ' => if v then TSO W k a ρ σ' Q else TSO W k b ρ σ' Q) : TS1O W k (.ite c a b) ρ σ Q := fun names sc S he X hk hr hw ho Λ ad s St => by
  replace he := b9b he; obtain ⟨_, _, _, _, rfl, he⟩ := he
  simp only [Bool.and_eq_true] at he
  refine wpAny_If (wpAny_mono (t names sc _ he.1.1 X hk hr hw ho Λ ad s St) (fun v s₁ h₁ => ?_) fun ζ ζ f => f.elim)
  obtain ⟨σ₁, Λ₁, ad₁, S₁, P₁, q⟩ := h₁
  have key : ∀ {ss S}, isSs names sc ss S = true -> TSO W k ss ρ σ₁ Q -> wpAny (model W.p W.w) X.A (execs S X.env) (PostS W.gl X names σ Λ ad s Q) (fun ζ ζ => False) s₁ := fun hs q =>
    wpAny_mono (q names sc _ hs X hk hr hw ho Λ₁ ad₁ s₁ S₁) (fun f s₂ h₂ => by
      obtain ⟨out, ρ₂, σ₂, Λ₂, ad₂, S₂, P₂, fr, q⟩ := h₂
      exact ⟨out, ρ₂, σ₂, Λ₂, ad₂, S₂, P₁.own.trans P₂, fr, q⟩) fun ζ ζ f => f
  cases v with
  | true => exact key he.1.2 q
  | false => exact key he.2 q
theorem TS1O.asg {i : Nat} {e : CE} (t : TEO W k e ρ σ fun v σ' => Q .next (ρ.set i (some v)) σ') (hn : a1v e = true := by rfl) : TS1O W k (.asg i e) ρ σ Q := fun names sc S he X hk hr hw ho Λ ad s St => by
  replace he := a8f he; obtain ⟨_, _, _, _, rfl, he⟩ := he
  simp only [Bool.and_eq_true] at he
  refine wpAny_Assign_Name (wpAny_mono (t names sc _ he.2 X hk hr hw ho Λ ad s St) (fun v s₁ h₁ => ?_) fun ζ ζ f => f) (a1p he.2 hn _ _ _)
  obtain ⟨val, σ₁, Λ₁, ad₁, S₁, P₁, r, q⟩ := h₁
  exact S₁.store hk he.1 r fun s₂ S₂ P₂ => ⟨.next, _, _, _, _, S₂, P₁.own.trans P₂.ownS, .next, q⟩
theorem TS1O.ret {e : CE} (t : TEO W k e ρ σ fun v σ' => Q (.ret v) ρ σ') : TS1O W k (.ret e) ρ σ Q := fun names sc S he X hk hr hw ho Λ ad s St => by
  replace he := b4g he; obtain ⟨_, _, rfl, he⟩ := he
  exact wpAny_Return_some (wpAny_mono (t names sc _ he X hk hr hw ho Λ ad s St) (fun v s₁ h₁ => h₁.toS (f := .ret v) fun ζ ζ q => q) fun ζ ζ f => f)
theorem c4m {f : String} {cf : CF} {args : List V} {b : Bool} (hf : HasF W f cf) (hlen : args.length = cf.nparams) (t : TSO W k cf.body (args.map some ++ List.replicate (cf.nvars - cf.nparams) none) [] fun out ζ ζ => out = .ret (.d (.bool b)))
    {A : Around} {s : Shared} {vs : List Value} {Φ : Addr -> Prop} (hr : Room A (k + 1)) (hA : A.frames = some []) (hw : W.ok s.heap) (hx : ∃ CR, XW W.gl s.heap CR) (hΦ : ∀ a, Φ a -> used s a) (rel : VRels W.gl s.heap noL Φ [] vs args) {a : Addr} (ha : W.gl (Str.ofString f) = some (.ref a)) :
    wpAny (model W.p W.w) A (call (.ref a) vs) (fun v s' => v = .bool b /\ (∀ b o, s.heap.get? b = some o -> s'.heap.get? b = some o) /\ s'.os = s.os /\ s'.gens = s.gens) (fun ζ ζ => False) s := by
  refine wpAny_call (Fun.start hf hlen hr hw hΦ rel ha (R := wants _ _) fun names sc S X Λ s₁ hb hk hrx hXA hB hos hgn hPh hfr St => ?_).2
  refine wpAny_mono (t _ sc S hb X hk hrx (hB ▸ hw) ⟨by erw [hXA]; exact Around.frames_deeper hA, hfr, hB ▸ hx⟩ _ _ _ St) (fun fl s' h => ?_) fun ζ ζ f => f.elim
  obtain ⟨out, ρ₁, σ₁, Λ₁, ad₁, S₁, P₁, fr, rfl⟩ := h
  cases fr with
  | ret r =>
    have d := r.dInv
    cases d
    exact ⟨rfl, hB ▸ S₁.keep, S₁.os.trans hos, S₁.gens.trans hgn⟩
end
end Mine
end
section
open PySem PyProof.Rows
namespace Mine
noncomputable def prs (s : Nat) (es : List Nat) : List (Nat × Nat) := es.flatMap fun e => (List.range s).map fun a => (e, a)
structure EJ (s N : Nat) (t : List Nat) (told : Nat) (ps : List (Nat × Nat)) (kvs : List (Int × D)) : Prop where
  nd : (kvs.map (·.1)).Nodup
  mem : ∀ z : Int, z ∈ kvs.map (·.1) ↔ ∃ p ∈ ps, t[p.1 * s + p.2]? = some told /\ z = (((p.1 * s + p.2) % N : Nat) : Int)
section
variable {s N : Nat} {t : List Nat} {told : Nat} {ps : List (Nat × Nat)} {kvs : List (Int × D)}
theorem EJ.nil : EJ s N t told [] [] := ⟨List.nodup_nil, fun z => ⟨fun h => absurd h List.not_mem_nil, fun ⟨_, h, _⟩ => absurd h List.not_mem_nil⟩⟩
theorem EJ.put (J : EJ s N t told ps kvs) {e a : Nat} (h : t[e * s + a]? = some told) {x : D} : EJ s N t told (ps ++ [(e, a)]) (Mine.put kvs (((e * s + a) % N : Nat) : Int) x) :=
  ⟨b2u J.nd, fun z => by
    rw [c0h, J.mem]
    constructor
    . rintro (⟨p, hp, h'⟩ | rfl)
      . exact ⟨p, List.mem_append_left _ hp, h'⟩
      . exact ⟨(e, a), List.mem_append_right _ (.head _), h, rfl⟩
    . rintro ⟨p, hp, h'⟩
      rcases List.mem_append.mp hp with hp | hp
      . exact .inl ⟨p, hp, h'⟩
      . cases List.mem_singleton.mp hp; exact .inr h'.2⟩
theorem EJ.skip (J : EJ s N t told ps kvs) {e a v : Nat} (h : t[e * s + a]? = some v) (hv : v ≠ told) : EJ s N t told (ps ++ [(e, a)]) kvs :=
  ⟨J.nd, fun z => by
    rw [J.mem]
    constructor
    . rintro ⟨p, hp, h'⟩
      exact ⟨p, List.mem_append_left _ hp, h'⟩
    . rintro ⟨p, hp, h'⟩
      rcases List.mem_append.mp hp with hp | hp
      . exact ⟨p, hp, h'⟩
      . cases List.mem_singleton.mp hp
        exact absurd (Option.some.inj (h.symm.trans h'.1)) hv⟩
theorem EJ.len (J : EJ s N t told ps kvs) (hN : 0 < N) : kvs.length <= N := by
  have := b6l (N := N) J.nd fun z hz => by
    refine xEAA ((J.mem z).mp hz) fun p ζ ζ e => ?_
    exact ⟨_, e, Nat.mod_lt _ hN⟩
  rwa [List.length_map] at this
theorem mem_prs {es : List Nat} {p : Nat × Nat} : p ∈ prs s es ↔ p.1 ∈ es /\ p.2 < s := by
  unfold prs
  rw [List.mem_flatMap]
  constructor
  . rintro ⟨e, he, hp⟩
    obtain ⟨a, ha, rfl⟩ := List.mem_map.mp hp
    exact ⟨he, List.mem_range.mp ha⟩
  . rintro ⟨h1, h2⟩
    exact ⟨p.1, h1, List.mem_map.mpr ⟨p.2, List.mem_range.mpr h2, rfl⟩⟩
theorem EJ.sort {ends : List Nat} (J : EJ s N t told (prs s ends) kvs) (hN : 0 < N) : a7n (kvs.map (·.1)) = (a1n s N t ends told).map fun (x : Nat) => (x : Int) :=
  c0j hN J.nd fun z => (J.mem z).trans ⟨fun ⟨p, hp, h1, h2⟩ => ⟨_, h2, p.1, (mem_prs.mp hp).1, p.2, (mem_prs.mp hp).2, h1, rfl⟩,
    fun ⟨m, e, a, h1, b, h2, h3, h4⟩ => ⟨(a, b), mem_prs.mpr ⟨h1, h2⟩, h3, by erw [e, ← h4]⟩⟩
theorem c4n {ends : List Nat} {n e : Nat} (h : ends[n]? = some e) : prs s (ends.take (n + 1)) = prs s (ends.take n) ++ (List.range s).map fun a => (e, a) := by
  erw [List.take_add_one, h]
  unfold prs
  erw [List.flatMap_append]; simp only [Option.toList, List.flatMap_cons, List.flatMap_nil, List.append_nil]
theorem c0o {a e : Nat} : (List.range (a + 1)).map (fun a => (e, a)) = (List.range a).map (fun a => (e, a)) ++ [(e, a)] := by erw [List.range_succ, List.map_append]; rfl
theorem b4w {w e a : Nat} (R : OkR s w t) (he : e < s ^ (w - 1)) (ha : a < s) : ∃ v, t[e * s + a]? = some v := by
  refine ⟨_, List.getElem?_eq_getElem ?_⟩
  erw [R.len, R.eq]
  have := Nat.mul_le_mul_right s (Nat.succ_le_of_lt he)
  rw [Nat.succ_mul] at this
  exact Nat.lt_of_lt_of_le (Nat.add_lt_add_left ha _) this
end
section
variable {W : World0} {k : Nat}
structure HasG (W : World0) : Prop where
  S : HasS W
  ends_behind : HasF W "ends_behind" F_ends_behind
theorem TEq.sortedD (hW : WOk W) {σ : List O} {ρ : List (Option V)} {e : CE} {tape : List D} {cs : List Prop} {v : V} {l : List (Int × D)} (h : pv W k σ ρ e [] tape = some (v, cs, [])) (hc : AllP cs) (hv : a0i σ v = some (.dI l)) (hl : l.length < 64) : TEq W k (.prim "sorted" [e]) ρ σ (.lst ((a7n (l.map (·.1))).map .int)) :=
  TE.sortedD hW (TE.ev h hc ⟨l, hv, hl, rfl, rfl⟩)
theorem a7p (H : HasG W) {s w : Nat} {t : List Nat} (R : OkR s w t) {ends : List Nat} {told : Nat} (he : ∀ e ∈ ends, e < s ^ (w - 1)) (hl : ends.length <= 1000) :
    Spec W (k + 4) "ends_behind" [.d (a0k s w t), .d (.tup (a0a ends)), .d (.int told)] (.tup (a0a (a1n s (s ^ (w - 1)) t ends told))) := by
  have hN := R.pos
  have h63 : ∀ {ps kvs}, EJ s (s ^ (w - 1)) t told ps kvs -> kvs.length < 64 := fun J => Nat.lt_of_le_of_lt (Nat.le_trans (J.len hN) R.n8) (by decide)
  refine Spec.intro H.ends_behind rfl (TS.cons (TS1.asg (TE.dct0 (.dI []) (.inl rfl) (TS.forS (k := k + 3) rfl trivial rfl rfl (by erw [List.length_map, a0b]; exact a1k hl)
    (fun n ρ σ => ∃ (x y : Option V) (kvs : List (Int × D)), ρ = [some (.d (a0k s w t)), some (.d (.tup (a0a ends))), some (.d (.int told)), some (.r 0), x, y] /\ σ = [.dI kvs] /\ EJ s (s ^ (w - 1)) t told (prs s (ends.take n)) kvs)
    ⟨none, none, [], rfl, rfl, .nil⟩ ?_ ?_))))
  . rintro n x _ _ hx ⟨_, y, kvs, rfl, rfl, J⟩
    obtain ⟨e, hen, rfl⟩ := a3e hx
    refine TS.forR H.S.R.ok rfl trivial (a1k R.s1000) (fun a ρ σ => ∃ (y : Option V) (kvs : List (Int × D)), ρ = [some (.d (a0k s w t)), some (.d (.tup (a0a ends))), some (.d (.int told)), some (.r 0), some (.d (.int e)), y] /\ σ = [.dI kvs] /\ EJ s (s ^ (w - 1)) t told (prs s (ends.take n) ++ (List.range a).map fun a => (e, a)) kvs)
      ⟨y, kvs, rfl, rfl, by erw [List.range_zero, List.map_nil, List.append_nil]; exact J⟩ ?_ ?_
    . rintro a _ _ ha ⟨_, kvs, rfl, rfl, J⟩
      refine xE (b4w R (he e (List.mem_of_getElem? hen)) ha) fun v hv => ?_
      have K : ∀ kvs', EJ s (s ^ (w - 1)) t told ((prs s (ends.take n) ++ (List.range a).map fun a => (e, a)) ++ [(e, a)]) kvs' -> EJ s (s ^ (w - 1)) t told (prs s (ends.take n) ++ (List.range (a + 1)).map fun a => (e, a)) kvs' := fun ζ h => by rwa [c0o, ← List.append_assoc]
      refine TS.iteV (tape := [.int v]) rfl ⟨a4k H.S R hv, trivial⟩ (fun h => ?_) fun h => ?_
      . cases beqN h
        exact TS.putV (tape3 := [.int (((e * s + a) % s ^ (w - 1) : Nat) : Int)]) rfl trivial rfl trivial rfl ⟨a3v H.S R e a, trivial⟩ (.dI rfl rfl (Nat.le_trans (Nat.le_of_lt (h63 J)) (by decide))) (TS.nil (TS.nil ⟨_, _, rfl, rfl, K _ (J.put hv)⟩))
      . exact TS.nil (TS.nil ⟨_, _, rfl, rfl, K _ (J.skip hv (bneN h))⟩)
    . rintro _ _ ⟨y, kvs, rfl, rfl, J⟩
      exact TS.nil ⟨_, _, _, rfl, rfl, by erw [c4n hen]; exact J⟩
  . rintro _ _ ⟨_, y, kvs, rfl, rfl, J⟩
    rw [List.length_map, a0b, List.take_length] at J
    have hk : (a7n (kvs.map (·.1))).map D.int = a0a (a1n s (s ^ (w - 1)) t ends told) := by erw [J.sort hN]; exact keyZ_D _
    refine TS.retV (tape := [.tup (a0a (a1n s (s ^ (w - 1)) t ends told))]) rfl ⟨TEq.tuple H.S.R.ok (hk ▸ TEq.sortedD H.S.R.ok rfl trivial rfl (h63 J)) ?_, trivial⟩ rfl
    erw [← hk, List.length_map, (a4x _).length_eq, List.length_map]
    exact Nat.le_trans (Nat.le_of_lt (h63 J)) (by decide)
end
end Mine
end
section
open PySem PyProof.Rows
namespace Mine
theorem c0p {n : Nat} (h : n <= 256) : n <= 16777216 := Nat.le_trans h (by decide)
section
variable {W : World0} {k : Nat}
theorem TEq.tupRange (hW : WOk W) {σ : List O} {ρ : List (Option V)} {e : CE} {tape : List D} {cs : List Prop} {m : Nat} (h : pv W k σ ρ e [] tape = some (.d (.int (m : Int)), cs, [])) (hc : AllP cs) (hm : m <= 16777216) : TEq W k (.prim "tuple" [.prim "range" [e]]) ρ σ (.tup (a0a (List.range m))) :=
  TE.tupRange hW (TE.ev h hc ⟨m, rfl, c0e m, Int.ofNat_le.mpr hm, by erw [Int.toNat_natCast]; exact ⟨rfl, rfl⟩⟩)
end
end Mine
end
section
open PySem PyProof.Rows
namespace Mine
theorem c0q (l : List Nat) : dep (.tup (a0a l)) <= 200 := by
  show deps (a0a l) + 1 <= 200
  erw [a7w]; decide
theorem c0r {α : Type} {l : List α} {n : Nat} {a : α} (h : l[n]? = some a) : l.take (n + 1) = l.take n ++ [a] := by erw [List.take_add_one, h]; rfl
section
variable {W : World0} {k : Nat}
end
end Mine
end
section
namespace Mine
open PySem
noncomputable def a8w : Nat -> List (List Nat)
  | 0 => [[]]
  | n + 1 => a8w n ++ (a8w n).map (· ++ [n])
noncomputable def okS (S : List Nat) : Prop := S.Pairwise (· < ·) /\ ∀ x ∈ S, x < 8
theorem a4n (p : Nat -> Bool) : ∀ n, (List.range n).filter p ∈ a8w n
  | 0 => by simp [a8w]
  | n + 1 => by
    erw [List.range_succ, List.filter_append]
    simp only [a8w, List.mem_append, List.mem_map]
    cases h : p n with
    | true => right; exact ⟨_, a4n p n, by simp [h]⟩
    | false => left; simpa [h] using a4n p n
theorem okS.mem {S : List Nat} (h : okS S) : S ∈ a8w 8 := by
  have e : S = (List.range 8).filter (fun x => decide (x ∈ S)) := by
    have nd : S.Nodup := h.1.imp fun hh => Nat.ne_of_lt hh
    refine List.Perm.eq_of_pairwise (le := (· < ·)) (fun a b ζ ζ h1 h2 => absurd (Nat.lt_trans h1 h2) (Nat.lt_irrefl _)) h.1 (List.Pairwise.filter _ List.pairwise_lt_range) ?_
    refine (List.perm_ext_iff_of_nodup nd (List.Pairwise.filter _ List.nodup_range)).mpr fun x => ?_
    rw [List.mem_filter]
    simp only [List.mem_range, decide_eq_true_eq]
    exact ⟨fun hx => ⟨h.2 x hx, hx⟩, fun hx => hx.2⟩
  erw [e]; exact a4n _ 8
noncomputable def tabN (led : Bool) (S : List Nat) : SetTable := { mask := if S.length < 5 then 7 else 31, place := S.toArray, dummies := #[], finger := 0, led, moves := if S.length < 5 then 0 else 1, plain := true }
noncomputable def posN (S : List Nat) (h : Nat) : Nat := (S.filter (· < h)).length
noncomputable def insN (S : List Nat) (h : Nat) : List Nat := S.take (posN S h) ++ h :: S.drop (posN S h)
noncomputable def c4o (led : Bool) (S : List Nat) (h : Nat) : Bool :=
  decide ((tabN led S).freeSlot h = some (h, false)) && Nat.beq ((tabN led S).put h).2 (posN S h)
theorem c9d : ((a8w 8).all fun S => (List.range 8).all fun h => S.contains h || c4o true S h) = true := by decide +kernel
theorem c9e : ((a8w 8).all fun S => (List.range 8).all fun h => S.contains h || c4o false S h) = true := by decide +kernel
theorem c6q (led : Bool) {S : List Nat} (hS : okS S) {h : Nat} (h8 : h < 8) (hn : h ∉ S) : (tabN led S).freeSlot h = some (h, false) /\ ((tabN led S).put h).2 = posN S h := by
  have key : ((a8w 8).all fun S => (List.range 8).all fun h => S.contains h || c4o led S h) = true := by cases led; exact c9e; exact c9d
  have h1 := List.all_eq_true.mp (List.all_eq_true.mp key S hS.mem) h (List.mem_range.mpr h8)
  rw [Bool.or_eq_true] at h1
  rcases h1 with h1 | h1
  . exact absurd (List.contains_iff_mem.mp h1) hn
  . unfold c4o at h1
    rw [Bool.and_eq_true] at h1
    exact ⟨of_decide_eq_true h1.1, Nat.eq_of_beq_eq_true h1.2⟩
noncomputable def a5s (S : List Nat) : Array Int := (S.map fun (x : Nat) => (x : Int)).toArray
theorem lay5 : ((a8w 8).all fun S => S.length != 5 || (match SetTable.layClean 31 (a5s S) with | some owner => (List.range 32).filterMap (fun j => (owner.getD j none).map (j, ·)) == S.zip (List.range 5) | none => false)) = true := by decide +kernel
set_option tactic.hygienic true in
theorem laid5 (led : Bool) {S : List Nat} (hS : okS S) (h5 : S.length = 5) : SetTable.laid 31 0 1 led true (a5s S) = some (tabN led S, #[0, 1, 2, 3, 4]) := by
  have h1 := List.all_eq_true.mp lay5 S hS.mem
  rw [Bool.or_eq_true] at h1
  rcases h1 with h1 | h1
  . simp [h5] at h1
  . unfold SetTable.laid
    split at h1
    . rename_i owner ho
      rw [beq_iff_eq] at h1
      show (SetTable.layClean 31 (a5s S)).bind _ = _
      erw [ho]
      show some _ = some _
      congr 1
      show (_, _) = (_, _)
      have e : (List.range (31 + 1)).filterMap (fun j => (owner.getD j none).map (j, ·)) = S.zip (List.range 5) := h1
      erw [e]
      have z1 : (S.zip (List.range 5)).map (·.1) = S := List.map_fst_zip (by simp [h5])
      have z2 : (S.zip (List.range 5)).map (·.2) = List.range 5 := List.map_snd_zip (by simp [h5])
      erw [z1, z2]
      simp only [tabN, h5]
      rfl
    . exact dFT h1
noncomputable def b1b (S : List Nat) : Nat -> Nat
  | 0 => 0
  | i + 1 => S.getD i 0 + 1
theorem c0s : ((a8w 8).all fun S => (List.range (S.length + 1)).all fun i => Nat.beq (SetTable.below S.toArray (b1b S i)) i) = true := by decide +kernel
theorem c4p {S : List Nat} (hS : okS S) {i : Nat} (hi : i <= S.length) : SetTable.below S.toArray (b1b S i) = i :=
  Nat.eq_of_beq_eq_true (List.all_eq_true.mp (List.all_eq_true.mp c0s S hS.mem) i (List.mem_range.mpr (om32 hi)))
theorem okS.len {S : List Nat} (h : okS S) : S.length <= 8 := by
  have := List.Nodup.length_le_of_subset (l₂ := List.range 8) (h.1.imp fun hh => Nat.ne_of_lt hh) fun x hx => List.mem_range.mpr (h.2 x hx)
  simpa using this
theorem b2x : ∀ {S : List Nat} (h : Nat), S.Pairwise (· < ·) -> (∀ x ∈ S.take (posN S h), x < h) /\ ∀ x ∈ S.drop (posN S h), h <= x
  | [], h, _ => by simp [posN]
  | a :: S, h, hp => by
    rw [List.pairwise_cons] at hp
    by_cases ha : a < h
    . have e : posN (a :: S) h = posN S h + 1 := by simp [posN, ha]
      erw [e, List.take_succ_cons, List.drop_succ_cons]
      obtain ⟨h1, h2⟩ := b2x h hp.2
      exact ⟨fun x hx => (List.mem_cons.mp hx).elim (fun e => e ▸ ha) (h1 x), h2⟩
    . have e : posN (a :: S) h = 0 := by
        simp only [posN, List.length_eq_zero_iff, List.filter_eq_nil_iff]
        intro x hx
        rcases List.mem_cons.mp hx with rfl | hx
        . simpa using ha
        . have := hp.1 x hx; simp; exact om33 this ha
      erw [e]
      simp only [List.take_zero, List.not_mem_nil, false_implies, implies_true, List.drop_zero, true_and]
      intro x hx
      rcases List.mem_cons.mp hx with rfl | hx
      . exact om34 ha
      . have := hp.1 x hx; exact om33 this ha
theorem insN_mem {S : List Nat} {h x : Nat} : x ∈ insN S h ↔ x = h ∨ x ∈ S := by
  unfold insN
  rw [List.mem_append, List.mem_cons]
  have := List.take_append_drop (posN S h) S
  constructor
  . rintro (h1 | h1 | h1)
    . exact .inr (List.mem_of_mem_take h1)
    . exact .inl h1
    . exact .inr (List.mem_of_mem_drop h1)
  . rintro (h1 | h1)
    . exact .inr (.inl h1)
    . rw [← this] at h1
      exact (List.mem_append.mp h1).elim .inl fun h => .inr (.inr h)
theorem a4z (S : List Nat) (h : Nat) : (insN S h).length = S.length + 1 := by
  have : posN S h <= S.length := List.length_filter_le _ _
  simp [insN]; exact om35
theorem okS.ins {S : List Nat} (hS : okS S) {h : Nat} (h8 : h < 8) (hn : h ∉ S) : okS (insN S h) := by
  refine ⟨?_, fun x hx => (insN_mem.mp hx).elim (fun e => e ▸ h8) (hS.2 x)⟩
  obtain ⟨h1, h2⟩ := b2x h hS.1
  have hp := hS.1
  rw [← List.take_append_drop (posN S h) S, List.pairwise_append] at hp
  unfold insN
  rw [List.pairwise_append, List.pairwise_cons]
  refine ⟨hp.1, ⟨fun x hx => ?_, hp.2.1⟩, fun a ha b hb => ?_⟩
  . have := h2 x hx
    have hne : x ≠ h := fun e => hn (e ▸ List.mem_of_mem_drop hx)
    exact om36 this hne
  . rcases List.mem_cons.mp hb with rfl | hb
    . exact h1 a ha
    . exact hp.2.2 a ha b hb
end Mine
end
section
namespace Mine
open PySem PyProof.Rows
section
variable {prog : Program} {w : World} {A : Around} {E : Value -> Shared -> Prop} {s : Shared}
structure EntsOk (es : Array (Int × Value)) (S : List Nat) : Prop where
  size : es.size = S.length
  at_ : ∀ (i : Nat) e, es[i]? = some e -> ∃ (n : Nat) (t : Tok), S[i]? = some n /\ e = ((n : Int), .int (n : Int) t)
noncomputable def a6w (w : World) : Bool := !w.params.followText "set-order"
noncomputable def a4o (w : World) (S : List Nat) (ep : Nat) (es : Array (Int × Value)) : Obj := { cls := .type "set", dict := none, data := .set es ep (tabN (a6w w) S), slots := #[] }
noncomputable def SetIs (w : World) (h : Heap) (a : Addr) (S : List Nat) (ep : Nat) (es : Array (Int × Value)) : Prop := okS S /\ EntsOk es S /\ h.get? a = some (a4o w S ep es)
theorem a9w {n : Nat} (h : n < 8) : hashInt (n : Int) = (n : Int) := by
  exact (by decide : ∀ n : Nat, n < 8 -> hashInt (n : Int) = (n : Int)) n h
theorem a9x {α : Type} (l : List α) : ∀ n, n <= l.length -> (List.range n).filterMap (l[·]?) = l.take n
  | 0, _ => rfl
  | n + 1, h => by
    erw [List.range_succ, List.filterMap_append, a9x l n (Nat.le_of_succ_le h), List.take_add_one, List.filterMap_cons, List.getElem?_eq_getElem h]; rfl
theorem a3w {α : Type} (xs : Array α) (p : Nat) (x : α) : (SetTable.insertAt xs p x).toList = xs.toList.take p ++ x :: xs.toList.drop p := by
  unfold SetTable.insertAt
  simp [List.extract_eq_take_drop]
  exact List.take_of_length_le (by simp)
theorem EntsOk.elems {es : Array (Int × Value)} {S : List Nat} (h : EntsOk es S) (hS : okS S) : ElemsOf (intKind prog w) es.toList := fun e he => by
  obtain ⟨i, hi⟩ := List.mem_iff_getElem?.mp he
  rw [Array.getElem?_toList] at hi
  obtain ⟨n, t, hn, rfl⟩ := h.at_ i e hi
  exact ⟨⟨n, intKind_is _ _ _ _, (a9w (hS.2 n (List.mem_of_getElem? hn))).symm⟩, rfl⟩
theorem a3x {led : Bool} {S : List Nat} (hS : okS S) {n : Nat} (hn : n = S.length) : (tabN led S).fits n = true := by
  subst hn
  have := hS.len
  simp only [SetTable.fits, SetTable.fill, tabN, Bool.and_eq_true, beq_iff_eq, decide_eq_true_eq, List.size_toArray, List.length_nil, Nat.add_zero, true_and]
  split <;> omega
theorem EntsOk.hashes {es : Array (Int × Value)} {S : List Nat} (h : EntsOk es S) : es.map (·.1) = a5s S := by
  apply Array.ext'
  erw [Array.toList_map]
  simp only [a5s]
  apply List.ext_getElem?
  intro i
  erw [List.getElem?_map, List.getElem?_map, Array.getElem?_toList]
  cases he : es[i]? with
  | none =>
    have : S.length <= i := by erw [← h.size]; simpa using he
    erw [List.getElem?_eq_none this]; rfl
  | some e =>
    obtain ⟨n, t, hn, rfl⟩ := h.at_ i e he
    erw [hn]; rfl
theorem EntsOk.ins {es : Array (Int × Value)} {S : List Nat} (h : EntsOk es S) {n : Nat} {t : Tok} : EntsOk (SetTable.insertAt es (posN S n) ((n : Int), .int (n : Int) t)) (insN S n) where
  size := by
    erw [← Array.length_toList, a3w, a4z]
    have : posN S n <= S.length := List.length_filter_le _ _
    have := h.size
    simp; omega
  at_ := fun i e he => by
    rw [← Array.getElem?_toList, a3w] at he
    have hp : posN S n <= S.length := List.length_filter_le _ _
    have hsz := h.size
    have lt1 : (es.toList.take (posN S n)).length = posN S n := by simp; exact om37 hp hsz
    have lt2 : (S.take (posN S n)).length = posN S n := by simp; exact om38 hp
    unfold insN
    by_cases h1 : i < posN S n
    . rw [List.getElem?_append_left (om39 h1 lt1), List.getElem?_take_of_lt h1] at he
      rw [List.getElem?_append_left (om39 h1 lt2), List.getElem?_take_of_lt h1]
      rw [Array.getElem?_toList] at he
      exact h.at_ i e he
    . rw [List.getElem?_append_right (om40 lt1 h1), lt1] at he
      erw [List.getElem?_append_right (om40 lt2 h1), lt2]
      by_cases h2 : i = posN S n
      . subst h2
        simp only [Nat.sub_self, List.getElem?_cons_zero, Option.some.injEq] at he ⊢
        exact ⟨n, t, rfl, he.symm⟩
      . obtain ⟨j, hj⟩ : ∃ j, i - posN S n = j + 1 := ⟨i - posN S n - 1, by exact om41 h1 h2⟩
        rw [hj, List.getElem?_cons_succ, List.getElem?_drop] at he ⊢
        rw [Array.getElem?_toList] at he
        exact h.at_ _ e he
theorem c9f {led : Bool} {S : List Nat} (hS : okS S) {n : Nat} (hn : n < 8) (hnS : n ∉ S) : (tabN led S).put n = ({ tabN led S with place := (insN S n).toArray }, posN S n) := by
  have h2 := (c6q led hS hn hnS).2
  have e : (tabN led S).put n = ({ tabN led S with place := SetTable.insertAt S.toArray (SetTable.below S.toArray n) n, dummies := #[] }, SetTable.below S.toArray n) := rfl
  rw [e] at h2 ⊢
  have h2 : SetTable.below S.toArray n = posN S n := h2
  erw [h2]
  have : SetTable.insertAt S.toArray (posN S n) n = (insN S n).toArray := by
    apply Array.ext'
    erw [a3w]; rfl
  erw [this]; rfl
theorem b7t {led : Bool} {S : List Nat} (hS : okS S) {n : Nat} (hn : n < 8) (hnS : n ∉ S) {es : Array (Int × Value)} (h : EntsOk es S) {t : Tok} :
    layNew (tabN led S) es (n : Int) (.int (n : Int) t) = (SetTable.insertAt es (posN S n) ((n : Int), .int (n : Int) t), { tabN led S with place := (insN S n).toArray }, false, false) := by
  have hsz := (h.ins (n := n) (t := t)).size
  have hl := hS.len
  have hi := (hS.ins hn hnS).len
  have hil := a4z S n
  have hfit : ({ tabN led S with place := (insN S n).toArray } : SetTable).fits (SetTable.insertAt es (posN S n) ((n : Int), .int (n : Int) t)).size = true := by
    erw [hsz]
    simp only [SetTable.fits, SetTable.fill, tabN, Bool.and_eq_true, beq_iff_eq, decide_eq_true_eq, List.size_toArray, List.length_nil, Nat.add_zero, true_and]
    split <;> omega
  unfold layNew
  erw [(c6q led hS hn hnS).1]
  simp only [c9f hS hn hnS]
  unfold SetTable.orStandIn
  erw [hfit]
  rfl
theorem c4q {led : Bool} {S : List Nat} (hS : okS S) {n : Nat} (hn : n < 8) (hnS : n ∉ S) : ({ tabN led S with place := (insN S n).toArray } : SetTable).tooFull = decide (S.length = 4) := by
  have hl := hS.len
  have hil := a4z S n
  have h0 : ({ tabN led S with place := (insN S n).toArray } : SetTable).tooFull = decide ((insN S n).length * 5 ≥ (if S.length < 5 then 7 else 31) * 3) := rfl
  erw [h0, hil]
  rw [decide_eq_decide]
  split <;> omega
theorem c4r {led : Bool} {S : List Nat} {n : Nat} (h4 : S.length ≠ 4) : ({ tabN led S with place := (insN S n).toArray } : SetTable) = tabN led (insN S n) := by
  have hil := a4z S n
  unfold tabN
  erw [hil]
  by_cases h : S.length < 5
  . erw [if_pos h, if_pos (show S.length + 1 < 5 by exact om42 h h4), if_pos h, if_pos (show S.length + 1 < 5 by exact om42 h h4)]
  . erw [if_neg h, if_neg (show ¬ S.length + 1 < 5 by exact om43 h), if_neg h, if_neg (show ¬ S.length + 1 < 5 by exact om43 h)]
theorem c0t {led : Bool} {S : List Nat} (hS : okS S) {n : Nat} (hn : n < 8) (hnS : n ∉ S) (h4 : S.length = 4) {es : Array (Int × Value)} (h : EntsOk es (insN S n)) :
    relayAll { tabN led S with place := (insN S n).toArray } es (SetTable.grown es.size) = (es, tabN led (insN S n), false) := by
  have hil := a4z S n
  have hsz : es.size = 5 := by erw [h.size, hil, h4]
  unfold relayAll
  have hr : ({ tabN led S with place := (insN S n).toArray } : SetTable).relaid (es.map (·.1)) (SetTable.grown es.size) = some (tabN led (insN S n), #[0, 1, 2, 3, 4]) := by
    erw [h.hashes, ← laid5 led (hS.ins hn hnS) (om44 hil h4), hsz]
    have : ({ tabN led S with place := (insN S n).toArray } : SetTable).relaid (a5s (insN S n)) (SetTable.grown 5) = SetTable.laid 31 0 ((if ((if S.length < 5 then 7 else 31) == 7 && (31 == 7)) then (if S.length < 5 then 0 else 1) else (if S.length < 5 then 0 else 1) + 1)) led true (a5s (insN S n)) := rfl
    erw [this]
    simp only [h4]
    rfl
  erw [hr]
  dsimp only
  have e1 : (#[0, 1, 2, 3, 4] : Array Nat).filterMap (es[·]?) = es := by
    obtain ⟨l⟩ := es
    have h5 : l.length = 5 := hsz
    have := a9x l 5 (Nat.le_of_eq h5.symm)
    rw [List.take_of_length_le (Nat.le_of_eq h5)] at this
    refine Array.toList_inj.mp ?_
    erw [Array.toList_filterMap]
    refine Eq.trans ?_ this
    exact congrArg (fun f => List.filterMap f [0, 1, 2, 3, 4]) (funext fun i => List.getElem?_toArray)
  erw [e1]
  have e2 : coversAll #[0, 1, 2, 3, 4] es.size = true := by erw [hsz]; decide
  erw [e2, a3x (hS.ins hn hnS) (by erw [h.size])]
  rfl
end
end Mine
end
section
namespace Mine
open PySem PyProof.Rows
section
variable {prog : Program} {w : World} {A : Around} {E : Value -> Shared -> Prop} {s : Shared}
theorem SetIs.state {a : Addr} {S : List Nat} {ep : Nat} {es : Array (Int × Value)} (h : SetIs w s.heap a S ep es) {Q : (Array (Int × Value) × Nat × SetTable) -> Shared -> Prop} (q : Q (es, ep, tabN (a6w w) S) s) : wpAny (model prog w) A (setState a) Q E s :=
  wpAny_setState_of h.2.2 rfl (a3x h.1 h.2.1.size) q
theorem SetIs.same {h h' : Heap} {a : Addr} {S : List Nat} {ep : Nat} {es : Array (Int × Value)} (x : SetIs w h a S ep es) (e : ∀ o, h.get? a = some o -> h'.get? a = some o) : SetIs w h' a S ep es := ⟨x.1, x.2.1, e _ x.2.2⟩
theorem b6o {a : Addr} {ep : Nat} {es es' : Array (Int × Value)} {t t' : SetTable} (ho : s.heap.get? a = some { cls := .type "set", dict := none, data := .set es ep t, slots := #[] }) (hz : es'.size <= 9) {Q : Unit -> Shared -> Prop}
    (q : ∀ h', Heap.SameBut a s.heap h' -> h'.get? a = some { cls := .type "set", dict := none, data := .set es' (ep + 1) t', slots := #[] } -> Q () { s with heap := h' }) : wpAny (model prog w) A (storeSet a es' t') Q E s := by
  refine wpAny_storeSet_of ho rfl (q _ (Heap.SameBut.update s.heap a (Obj.putSet es' t')) ?_) (by erw [sizeLine_eq]; exact om45 hz)
  have := Heap.get?_update_self (Obj.putSet es' t') ho (by rw [putSet_of es' t' rfl]; rfl)
  rw [putSet_of es' t' rfl] at this; exact this
set_option maxHeartbeats 2000000 in
theorem c0u {a : Addr} {S : List Nat} {ep : Nat} {es : Array (Int × Value)} {n : Nat} {tok : Tok} {Q : Bool -> Shared -> Prop} (hS : SetIs w s.heap a S ep es) (hn : n < 8)
    (h : ∀ h' ep' es' b, Heap.SameBut a s.heap h' -> SetIs w h' a (if n ∈ S then S else insN S n) ep' es' -> Q b { s with heap := h', toks := s.toks + 1 }) :
    wpAny (model prog w) A (setAdd a (.int (n : Int) tok)) Q E s := by
  obtain ⟨hok, hes, ho⟩ := id hS
  have hel : ElemsOf (intKind prog w) es.toList := hes.elems hok
  have hfit : (tabN (a6w w) S).fits es.size = true := a3x hok hes.size
  have hl := hok.len
  have hsz := hes.size
  unfold setAdd
  refine wpAny_holding ?_
  refine wpAny_bind ((intKind prog w).pyHash (k := (n : Int)) (intKind_is _ _ _ _) ?_)
  unfold setAddHashed setAddHashedIn
  refine wpAny_holding (wpAny_bind (wpAny_setState_of (s := { s with toks := s.toks + 1 }) ho rfl hfit ?_))
  dsimp only
  rw [byScan_of (knd := intKind prog w) rfl (by unfold scanBound; exact om46 hsz hl) hel]
  simp only [↓reduceIte]
  unfold setAddByScan
  refine wpAny_bind ?_
  refine wpAny_bind (wpAny_rule ?_)
  refine wpAny_bind (wpAny_setScan_of (knd := intKind prog w) (s := { s with toks := s.toks + 1 }) (intKind_is _ _ _ _) ho rfl hfit hel ?_)
  cases hr : List.findIdx? (fun e => (intKind prog w).is (n : Int) e.2) es.toList with
  | some j =>
    dsimp only
    obtain ⟨hj, hpj, _⟩ := List.findIdx?_eq_some_iff_getElem.mp hr
    have hnS : n ∈ S := by
      refine xEEA (hes.at_ j es.toList[j] (by erw [← Array.getElem?_toList]; exact List.getElem?_eq_getElem hj)) fun m t hm e => ?_
      rw [e] at hpj
      have : (n : Int) = (m : Int) := (intKind prog w).inj _ _ _ hpj (intKind_is _ _ _ _)
      have : n = m := by exact om47 this
      subst this; exact List.mem_of_getElem? hm
    refine wpAny_pure (wpAny_pure ?_)
    exact h s.heap ep es false (Heap.SameBut.refl a s.heap) (by erw [if_pos hnS]; exact hS)
  | none =>
    dsimp only
    have hnS : n ∉ S := fun hm => by
      obtain ⟨j, hj⟩ := List.mem_iff_getElem?.mp hm
      have hjl : j < es.size := by erw [hsz]; exact (List.getElem?_eq_some_iff.mp hj).1
      refine xEEA (hes.at_ j es[j] (Array.getElem?_eq_getElem hjl)) fun m t hm' e => ?_
      rw [hj] at hm'; cases hm'
      have := List.findIdx?_eq_none_iff.mp hr es[j] (by simp)
      rw [e] at this
      have h2 : (intKind prog w).is (n : Int) (Value.int (n : Int) t) = true := intKind_is _ _ _ _
      rw [h2] at this; exact dTF this
    have hh : (intKind prog w).hash (n : Int) = (n : Int) := a9w hn
    erw [hh, b7t hok hn hnS hes]
    dsimp only
    have hE := hes.ins (n := n) (t := tok)
    have hS' := hok.ins hn hnS
    have hil := a4z S n
    have hzz : (SetTable.insertAt es (posN S n) ((n : Int), Value.int (n : Int) tok)).size <= 9 := by erw [hE.size]; exact om48 hil hl
    refine wpAny_bind (wpAny_pure ?_)
    erw [if_pos (show (tabN (a6w w) S).plain = true from rfl)]
    rw [hashByValue_scannable 8 rfl]
    refine wpAny_bind (wpAny_pure ?_)
    erw [if_pos (show plainKind (Value.int (n : Int) tok) = true from rfl)]
    refine wpAny_bind (b6o (s := { s with toks := s.toks + 1 }) ho hzz fun h1 hsb1 ho1 => ?_)
    erw [c4q hok hn hnS]
    by_cases h4 : S.length = 4
    . rw [if_pos (by simp [h4])]
      have hrl := c0t (led := a6w w) hok hn hnS h4 hE
      erw [hrl]
      dsimp only
      refine wpAny_bind (wpAny_pure ?_)
      refine wpAny_bind (b6o (s := { s with heap := h1, toks := s.toks + 1 }) ho1 hzz fun h2 hsb2 ho2 => ?_)
      refine wpAny_pure (wpAny_pure ?_)
      exact h h2 _ _ true (hsb1.trans hsb2) (by rw [if_neg hnS]; exact ⟨hS', hE, ho2⟩)
    . rw [if_neg (by simp [h4])]
      refine wpAny_pure (wpAny_pure ?_)
      rw [c4r h4] at ho1
      exact h h1 _ _ true hsb1 (by rw [if_neg hnS]; exact ⟨hS', hE, ho1⟩)
end
end Mine
end
section
namespace Mine
open PySem PyProof.Rows
noncomputable def addN (S : List Nat) (n : Nat) : List Nat := if n ∈ S then S else insN S n
noncomputable def setN (val : Nat -> Nat) : Nat -> List Nat
  | 0 => []
  | i + 1 => addN (setN val i) (val i)
section
variable {prog : Program} {w : World} {A : Around} {R : Result -> Shared -> Prop} {I : Addr} {fp wr : List Addr} {G : Array GenState -> Array GenState -> Prop} {n : Nat} {P : Nat -> Value -> Prop} {St : Nat -> Shared -> Prop}
theorem c4s (W : WalksS prog w A.in1 I fp wr G n P St) (S : Addr) (hSf : S ∉ fp)
    (val : Nat -> Nat) (hval : ∀ i v, i < n -> P i v -> val i < 8 /\ ∃ t, v = .int (val i : Int) t) :
    ∀ (k i : Nat) (s : Shared) (ep : Nat) (es : Array (Int × Value)), n - i = k -> i <= n -> St i s -> SetIs w s.heap S (setN val i) ep es ->
      (∀ s' ep' es', Moved (S :: wr) G s s' -> SetIs w s'.heap S (setN val n) ep' es' -> R (.ok (.ret .none)) s') ->
      codeAny (model prog w) A (.builtin "set.update.loop" ⟨[.ref S, .ref I], []⟩) R s := by
  have hSw : S ∉ wr := fun h => hSf (W.sub _ h)
  have hsub : ∀ b ∈ wr, b ∈ S :: wr := fun b hb => List.mem_cons_of_mem _ hb
  intro k
  induction k with
  | zero =>
    intro i s ep es hk hi hst hS hR
    have hin : i = n := by exact om49 hi hk
    subst hin
    refine codeAny_builtin F.entry_set_update_loop ?_
    erw [Around.under_plainId F.plain_set_update_loop _]
    show wpAny _ A.in1 (pyNext (.ref I) >>= _) _ _ s
    refine wpAny_bind (W.done s _ _ hst fun s' hm => ?_)
    show wpAny _ A.in1 (ret Value.none) _ _ s'
    exact wpAny_pure (hR s' ep es (hm.mono hsub) (hS.same fun o ho => hm.heap S _ hSw ho))
  | succ k ih =>
    intro i s ep es hk hi hst hS hR
    have hlt : i < n := by exact om50 hk
    refine codeAny_builtin F.entry_set_update_loop ?_
    erw [Around.under_plainId F.plain_set_update_loop _]
    show wpAny _ A.in1 (pyNext (.ref I) >>= _) _ _ s
    refine wpAny_bind (W.item i s _ _ hlt hst fun v s' hP hst' hm => ?_)
    obtain ⟨h8, t, rfl⟩ := hval i v hlt hP
    have hS' : SetIs w s'.heap S (setN val i) ep es := hS.same fun o ho => hm.heap S _ hSw ho
    show wpAny _ A.in1 (holding [Value.int (val i : Int) t] (setAdd S (.int (val i : Int) t)) >>= _) _ _ s'
    refine wpAny_bind (wpAny_holding ?_)
    refine c0u hS' h8 fun h' ep' es' b hsb hS2 => ?_
    refine wpAny_pure ⟨plainId_quiet F.plain_set_update_loop _, ih (i + 1) _ ep' es' (om51 hk) hlt (W.frame _ s' _ _ hst' (Nat.le_succ _) fun b hb o e => ?_) hS2 fun s'' ep'' es'' hm'' hS'' => ?_⟩
    . erw [hsb.2 b (fun h : b = S => hSf (by erw [← h]; exact hb))]; exact e
    . refine hR s'' ep'' es'' (Moved.trans W.gtrans ((hm.mono hsub).then_heap (Nat.le_succ _) fun b o hb e => ?_) hm'') hS''
      erw [hsb.2 b (fun h : b = S => hb (by erw [h]; exact List.mem_cons_self))]; exact e
end
section
variable {prog : Program} {w : World} {A : Around} {E : Value -> Shared -> Prop} {s : Shared}
theorem c9g (a : Value) {Q₁ : Value -> Shared -> Prop}
    (h : Q₁ (.ref s.heap.objs.size) { s with heap := s.heap.push (a4o w [] 0 #[]) }) :
    codeAny (model prog w) A (.call (.builtin "set.__new__") ⟨[.type "set", a], []⟩) (wants Q₁ E) s := by
  refine codeAny_of_tree ?_
  show wpAny _ A.in1 (do checkBuiltinCall "set.__new__" ⟨[.type "set", a], []⟩; again (.builtin "set.__new__" ⟨[.type "set", a], []⟩)) _ _ s
  refine wpAny_bind (wpAny_of_eq (F.newCall_set_1 a) (wpAny_pure ⟨plainId_quiet F.plain_set_new _, codeAny_builtin F.entry_set_new ?_⟩))
  erw [Around.under_plainId F.plain_set_new _]
  unfold Builtin.«set.__new__» Builtin.Frozenset.newClass
  have hsub := sub_set_self
  obtain ⟨hp, g, d, tk, os⟩ := s
  dsimp only
  wp_walk
  refine wpAny_askSetting (wpAny_pure ?_)
  dsimp only
  simp only [newObj]
  refine wpAny_bind (wpAny_alloc (wpAny_pure ?_))
  exact wpAny_pure h
set_option maxHeartbeats 3200000 in
theorem c4t {l : Addr} {items : Array Value} {ns : List Nat} {Q : Value -> Shared -> Prop}
    (hh : A.handled = none) (hl : s.heap.IsList l items) (hi : IntsAre items.toList (ns.map fun (x : Nat) => (x : Int))) (h8 : ∀ x ∈ ns, x < 8)
    (h : ∀ (h' : Heap) (tk ep : Nat) (es : Array (Int × Value)), SetIs w h' s.heap.objs.size (setN (fun i => ns.getD i 0) ns.length) ep es ->
      (∀ b o, b < s.heap.objs.size -> s.heap.get? b = some o -> h'.get? b = some o) -> Q (.ref s.heap.objs.size) { s with heap := h', toks := tk }) :
    wpAny (model prog w) A (call (.type "set") [.ref l]) Q E s := by
  have hlen : items.size = ns.length := by have := IntsAre.length hi; simpa using this
  refine xEE F.called_set.mro fun c tl hmro => ?_
  have hmade := F.called_set.made
  have hsub := F.called_set.sub
  refine wpAny_call (codeAny_of_tree ?_)
  show wpAny _ _ (callAny (.type "set") _) _ _ _
  refine wpAny_pure ⟨Code.quiet_builtin _ (by decide +kernel), codeAny_builtin F.entry_type_call ?_⟩
  erw [Around.under_plain (weight_type_call_type "set" [.ref l] []) rfl]
  have h1 := F.called_set.notType
  have h2 := F.called_set.canCreate
  have hct := F.typeCall_set_1 (.ref l)
  repeat (any_goals (first | assumption | wp_step))
  refine codeAny_mono (c9g (.ref l) (E := E) (Q₁ := fun obj s₁ => obj = .ref s.heap.objs.size /\ s₁ = { s with heap := s.heap.push (a4o w [] 0 #[]) }) ⟨rfl, rfl⟩) fun r s₁ hr => ?_
  cases r with
  | error e => exact hr
  | ok fl =>
    cases fl with
    | ret obj =>
      obtain ⟨rfl, rfl⟩ := hr
      have hS : (s.heap.push (a4o w [] 0 #[])).get? s.heap.objs.size = some (a4o w [] 0 #[]) := Heap.get?_push_size _ rfl
      have hT : Shared.TypeIs { s with heap := s.heap.push (a4o w [] 0 #[]) } (.ref s.heap.objs.size) "set" := ⟨_, hS, rfl⟩
      have hli := F.called_set.init.lookup
      have hbi := F.called_set.init.bind (.ref s.heap.objs.size)
      repeat (any_goals (first | assumption | wp_step))
      refine codeAny_mono (codeAny_call_builtin (R := wants (fun r s₂ => r = .none /\ ∃ h' tk ep es, s₂ = { s with heap := h', toks := tk } /\
          SetIs w h' s.heap.objs.size (setN (fun i => ns.getD i 0) ns.length) ep es /\
          (∀ b o, b < s.heap.objs.size -> s.heap.get? b = some o -> h'.get? b = some o)) E) F.called_set.init.plain F.entry_set_init (check_set_init_1 hT ?_)) fun r₂ s₂ hr₂ => ?_
      . obtain ⟨ol, hol, hcl, nl, hdl⟩ := hl
        obtain ⟨ocls, odict, odata, oslots⟩ := ol
        simp only at hcl hdl
        subst hcl; subst hdl
        have hol' : (s.heap.push (a4o w [] 0 #[])).get? l = some { cls := .type "list", dict := odict, data := .seq items nl, slots := oslots } := Heap.get?_push_of_some _ hol
        have hsls := F.sub_list_set
        have hslf := F.sub_list_frozenset
        have hne : (Value.type "list" == Value.type "dict") = false := by decide
        have hl1 : (s.heap.push (a4o w [] 0 #[])).IsList l items := ⟨_, hol', rfl, nl, rfl⟩
        unfold Builtin.«set.__init__» noKeywords Builtin.Frozenset.updateFrom
        generalize hPI : pyIter = PI
        wp_walk
        subst hPI
        refine wpAny_pyIter_list hl1 ?_
        refine wpAny_bind (wpAny_runValue ?_)
        have hlS : l < s.heap.objs.size := Heap.lt_size hol
        have hh3 : A.in1.in1.in1.handled = none := by simp [hh]
        have hneI : l ≠ (s.heap.push (a4o w [] 0 #[])).objs.size := by
          erw [Heap.size_push]; exact Nat.ne_of_lt (Nat.lt_succ_of_lt hlS)
        have hSf : s.heap.objs.size ∉ [(s.heap.push (a4o w [] 0 #[])).objs.size, l] := by
          erw [Heap.size_push]; simp only [List.mem_cons, List.mem_singleton, List.not_mem_nil, or_false, not_or]
          exact ⟨Nat.ne_of_lt (Nat.lt_succ_self _), Nat.ne_of_gt hlS⟩
        have hval : ∀ (i : Nat) (v : Value), i < items.size -> items[i]? = some v -> ns.getD i 0 < 8 /\ ∃ t, v = .int ((ns.getD i 0 : Nat) : Int) t := fun i v hlt hv => by
          obtain ⟨t, ht⟩ := IntsAre.int_at hi i v (by erw [Array.getElem?_toList]; exact hv)
          have hin : i < ns.length := by exact om52 hlt hlen
          refine ⟨?_, t, ?_⟩
          . erw [List.getD_eq_getElem?_getD, List.getElem?_eq_getElem hin]; exact h8 _ (List.getElem_mem _)
          . erw [ht]
            simp [List.getD_eq_getElem?_getD, List.getElem?_eq_getElem hin]
        refine c4s ((Walks.list hh3 _ l hneI items).toS) s.heap.objs.size
          hSf (fun i => ns.getD i 0) hval (items.size - 0) 0 _ 0 #[] om53 (Nat.zero_le _)
          ⟨⟨_, Heap.get?_push_size _ rfl, rfl, rfl⟩, (hl1.push _)⟩ ?hS0 ?hR
        case hS0 =>
          refine ⟨⟨by simp [setN], by simp [setN]⟩, ⟨rfl, fun i e he => by simp at he⟩, ?_⟩
          exact Heap.get?_push_of_some _ hS
        case hR =>
          intro s' ep' es' hm hS'
          obtain ⟨h', g', d', tk', os'⟩ := s'
          have eg : g' = s.gens := hm.gens
          have ed : d' = s.drawn := hm.drawn
          have eo : os' = s.os := hm.os
          subst eg; subst ed; subst eo
          show wpAny _ _ _ _ _ _
          refine wpAny_pure ?_
          show wpAny _ _ (ret Value.none) _ _ _
          refine wpAny_pure ⟨rfl, h', tk', ep', es', rfl, by erw [← hlen]; exact hS', fun b o hb e => ?_⟩
          have hb1 : b ≠ s.heap.objs.size := Nat.ne_of_lt hb
          have hb2 : b ≠ (s.heap.push (a4o w [] 0 #[])).objs.size := by
            erw [Heap.size_push]; exact Nat.ne_of_lt (Nat.lt_succ_of_lt hb)
          exact hm.heap b o (by simp only [List.mem_cons, List.mem_singleton, List.not_mem_nil, or_false, not_or]; exact ⟨hb1, hb2⟩) (Heap.get?_push_of_some _ (Heap.get?_push_of_some _ e))
      . cases r₂ with
        | error e => exact hr₂
        | ok fl₂ =>
          cases fl₂ with
          | ret r =>
            obtain ⟨rfl, h', tk, ep, es, rfl, hS', hk'⟩ := hr₂
            repeat (any_goals (first | assumption | wp_step))
            exact h _ _ _ _ hS' hk'
          | _ => exact hr₂.elim
    | _ => exact hr.elim
end
end Mine
end
section
namespace Mine
open PySem PyProof.Rows
theorem si_slot_next : Slot "set_iterator" "__next__" "set_iterator.__next__" :=
  .of (owner := "set_iterator") (n := "__next__") (by erw [typeLookup_type, builtinLookup_eq_fast]; kernel_rfl) (by decide +kernel) (by decide +kernel) (by decide +kernel)
    (by first | exact .inl (by decide +kernel) | exact .inr (by decide +kernel)) (by erw [isSubtype_type]; kernel_rfl)
theorem a6k : entryFor table "set_iterator.__next__" = some Builtin.«set_iterator.__next__» := entryFor_of_tree (by kernel_rfl)
theorem b6p : Manifest.owners.lookup (String.ofList ['r', 'o', 't', 'a', 'r', 'e', 't', 'i', '_', 't', 'e', 's'].reverse) = some Manifest.sig_set_iterator := by kernel_rfl
theorem a7f (a : Value) : argsOk "set_iterator.__next__" ⟨[a], []⟩ := by
  unfold argsOk; erw [signature?_of (id := "set_iterator.__next__") (n := ['_', '_', 't', 'x', 'e', 'n', '_', '_']) (o := ['r', 'o', 't', 'a', 'r', 'e', 't', 'i', '_', 't', 'e', 's']) (by kernel_rfl) b6p]; kernel_rfl
theorem a7g : Slot "set_iterator" "__iter__" "set_iterator.__iter__" :=
  .of (owner := "set_iterator") (n := "__iter__") (by erw [typeLookup_type, builtinLookup_eq_fast]; kernel_rfl) (by decide +kernel) (by decide +kernel) (by decide +kernel)
    (by first | exact .inl (by decide +kernel) | exact .inr (by decide +kernel)) (by erw [isSubtype_type]; kernel_rfl)
theorem b1c : entryFor table "set_iterator.__iter__" = some Builtin.«dict_keyiterator.__iter__» :=
  entryFor_alias (id' := "dict_keyiterator.__iter__") (by kernel_rfl) rfl (by decide +kernel) (by kernel_rfl)
theorem b2y (a : Value) : argsOk "set_iterator.__iter__" ⟨[a], []⟩ := by
  unfold argsOk; erw [signature?_of (id := "set_iterator.__iter__") (n := ['_', '_', 'r', 'e', 't', 'i', '_', '_']) (o := ['r', 'o', 't', 'a', 'r', 'e', 't', 'i', '_', 't', 'e', 's']) (by kernel_rfl) b6p]; kernel_rfl
theorem a9f : entryFor table "set.__iter__" = some Builtin.«frozenset.__iter__» :=
  entryFor_alias (id' := "frozenset.__iter__") (by kernel_rfl) rfl (by decide +kernel) (by kernel_rfl)
noncomputable def ordN (w : World) (a : Addr) (ep : Nat) (es : Array (Int × Value)) : Array (Int × Value) := if w.params.followText "set-order" then pickOrder (w.params.setOrder a ep) es else es
theorem a9y {α : Type} : ∀ {l : List α} {i : Nat} (h : i < l.length), (l[i] :: l.eraseIdx i).Perm l
  | a :: l, 0, _ => List.Perm.refl _
  | a :: l, i + 1, h => by
    simp only [List.getElem_cons_succ, List.eraseIdx_cons_succ]
    exact (List.Perm.swap _ _ _).trans ((a9y (by simpa using h)).cons a)
theorem c0v {α : Type} (next : Nat -> Nat) : ∀ (fuel k : Nat) (left : List α) (out : Array α), left.length = fuel -> (pickOrder.go next fuel k left out).toList.Perm (out.toList ++ left)
  | 0, k, left, out, h => by erw [List.length_eq_zero_iff.mp h]; simp [pickOrder.go]
  | fuel + 1, k, left, out, h => by
    unfold pickOrder.go
    have hlt : next k % left.length < left.length := Nat.mod_lt _ (om54 h)
    erw [List.getElem?_eq_getElem hlt]
    dsimp only
    refine (c0v next fuel (k + 1) _ _ (by erw [List.length_eraseIdx_of_lt hlt]; exact om55 h)).trans ?_
    erw [Array.toList_push, List.append_assoc]
    refine List.Perm.append_left _ ?_
    exact a9y hlt
theorem c0w {α : Type} (next : Nat -> Nat) (xs : Array α) : (pickOrder next xs).toList.Perm xs.toList := by
  have := c0v next xs.size 0 xs.toList #[] (by simp)
  simpa [pickOrder] using this
theorem a5a (w : World) (a : Addr) (ep : Nat) (es : Array (Int × Value)) : (ordN w a ep es).toList.Perm es.toList := by
  unfold ordN
  split
  . exact c0w _ _
  . exact List.Perm.refl _
section
variable {prog : Program} {w : World} {A : Around} {E : Value -> Shared -> Prop} {s : Shared}
noncomputable def b1d (a : Addr) (S : List Nat) (i n ep : Nat) (byText : Bool) : Obj := { cls := .type "set_iterator", data := .fields #[.int ((if byText then 0 else b1b S i : Nat) : Int) 0, .int (i : Int) 0, .ref a, .int (n : Int) 0, .int (ep : Int) 0] }
noncomputable def a2z (w : World) (h : Heap) (I a : Addr) (S : List Nat) (i n ep : Nat) : Prop := h.get? I = some (b1d a S i n ep (w.params.followText "set-order"))
theorem b7u {a : Addr} {S : List Nat} {ep : Nat} {es : Array (Int × Value)} (hS : SetIs w s.heap a S ep es) {Q : Value -> Shared -> Prop}
    (hQ : Q (.ref s.heap.objs.size) { s with heap := s.heap.push (b1d a S 0 es.size ep (w.params.followText "set-order")) }) : wpAny (model prog w) A (pyIter (.ref a)) Q E s := by
  have hT : s.TypeIs (.ref a) "set" := ⟨_, hS.2.2, rfl⟩
  refine wpAny_pyIter_slot hT F.slot_set_iter (wpAny_call_entry F.slot_set_iter hT a9f ?_ (F.args_set_iter_1 _))
  unfold Builtin.«frozenset.__iter__» Builtin.Frozenset.slot0 slotArgs
  simp only [List.isEmpty_nil, Bool.not_true, Bool.false_eq_true, ↓reduceIte, bind_assoc, List.length_nil, bne_self_eq_false]
  unfold Builtin.Frozenset.addrOf Builtin.Frozenset.sizeOf
  refine wpAny_bind (wpAny_pure ?_)
  dsimp only
  refine wpAny_bind (wpAny_pure ?_)
  refine wpAny_bind (wpAny_bind (wpAny_setEntries_of hS.2.2 rfl (a3x hS.1 hS.2.1.size) (wpAny_pure ?_)))
  unfold setDrawn setsByText
  refine wpAny_bind (wpAny_bind (hS.state ?_))
  dsimp only
  refine wpAny_bind (wpAny_bind (wpAny_askSetting (wpAny_pure (wpAny_pure ?_))))
  refine wpAny_ite_split (fun h => Bool.noConfusion (show false = true from (Bool.and_eq_true_iff.mp h).2)) (fun ζ => ?_)
  refine wpAny_bind (wpAny_pure ?_)
  refine wpAny_bind (wpAny_setEpoch_of hS.2.2 rfl (a3x hS.1 hS.2.1.size) ?_)
  refine wpAny_bind ?_
  refine wpAny_newObj_type (wpAny_pure ⟨_, rfl, "set_iterator", _, ⟨_, Heap.get?_push_size _ rfl, rfl⟩, si_slot_next.lookup, ?_⟩)
  have e : (if w.params.followText "set-order" = true then 0 else b1b S 0) = 0 := by split <;> rfl
  unfold b1d at hQ
  rw [e] at hQ
  exact hQ
end
end Mine
end
section
namespace Mine
open PySem PyProof.Rows
section
variable {prog : Program} {w : World} {A : Around} {E : Value -> Shared -> Prop} {s : Shared}
noncomputable def b2z (w : World) (S : List Nat) (i : Nat) : Nat := if w.params.followText "set-order" then 0 else b1b S i
theorem a9z {a : Addr} {S : List Nat} {i ep : Nat} {es : Array (Int × Value)} (hS : SetIs w s.heap a S ep es) (hi : i <= es.size) {Q : Option (Value × Nat) -> Shared -> Prop}
    (q : Q ((ordN w a ep es)[i]?.map fun e => (e.2, b2z w S (i + 1))) s) : wpAny (model prog w) A (setNext a (b2z w S i) i ep) Q E s := by
  unfold setNext setsByText
  refine wpAny_bind (hS.state ?_)
  dsimp only
  refine wpAny_bind (wpAny_bind (wpAny_askSetting (wpAny_pure ?_)))
  show wpAny _ _ (if w.params.followText "set-order" = true then _ else _) _ _ _
  cases hb : w.params.followText "set-order" with
  | true =>
    rw [if_pos rfl, if_neg (by simp)]
    unfold setWalk setsByText
    refine wpAny_bind (wpAny_bind (hS.state ?_))
    dsimp only
    refine wpAny_bind (wpAny_bind (wpAny_askSetting (wpAny_pure ?_)))
    show wpAny _ _ (if w.params.followText "set-order" = true then _ else _) _ _ _
    erw [if_pos hb]
    refine wpAny_bind (wpAny_askSetting (wpAny_pure (wpAny_pure ?_)))
    have e1 : ordN w a ep es = pickOrder (w.params.setOrder a ep) es := by unfold ordN; erw [if_pos hb]
    have e2 : ∀ j, b2z w S j = 0 := fun j => by unfold b2z; erw [if_pos hb]
    rw [e1, e2] at q
    erw [e2]
    exact q
  | false =>
    rw [if_neg (by simp)]
    refine wpAny_ite_split (fun h => Bool.noConfusion (show false = true from h)) (fun ζ => ?_)
    refine wpAny_bind (wpAny_ite_split (fun h => ?_) (fun ζ => wpAny_pure (wpAny_pure ?_)))
    . exfalso
      have h1 : (!(tabN (a6w w) S).led && !es.isEmpty) = true := h
      have h2 : (tabN (a6w w) S).led = true := by show a6w w = true; unfold a6w; erw [hb]; rfl
      rw [h2] at h1; exact dFT h1
    have e1 : ordN w a ep es = es := by unfold ordN; rw [if_neg (by simp [hb])]
    have e2 : ∀ j, b2z w S j = b1b S j := fun j => by unfold b2z; rw [if_neg (by simp [hb])]
    rw [e1, e2] at q
    erw [e2]
    have e3 : SetTable.below (tabN (a6w w) S).place (b1b S i) = i := c4p hS.1 (by erw [← hS.2.1.size]; exact hi)
    erw [e3]
    have e4 : (tabN (a6w w) S).place[i]? = S[i]? := by show S.toArray[i]? = _; simp
    erw [e4]
    have hsz := hS.2.1.size
    by_cases hlt : i < es.size
    . have hlS : i < S.length := by exact om52 hlt hsz
      rw [Array.getElem?_eq_getElem hlt] at q ⊢
      erw [List.getElem?_eq_getElem hlS]
      have : b1b S (i + 1) = S[i] + 1 := by simp [b1b, hlS]
      rw [this] at q
      exact q
    . rw [Array.getElem?_eq_none (om34 hlt)] at q ⊢
      exact q
theorem b4x (a : Addr) (S : List Nat) (i n ep : Nat) : b1d a S i n ep (w.params.followText "set-order") = { cls := .type "set_iterator", data := .fields #[.int (b2z w S i : Int) 0, .int (i : Int) 0, .ref a, .int (n : Int) 0, .int (ep : Int) 0] } := rfl
theorem b0a (v : Value) : slotArgs "__next__" 0 ⟨[v], []⟩ = pure (v, []) := rfl
theorem c0x {I a : Addr} {S : List Nat} {i ep : Nat} {es : Array (Int × Value)} {e : Int × Value} (hI : a2z w s.heap I a S i es.size ep) (hS : SetIs w s.heap a S ep es) (hx : (ordN w a ep es)[i]? = some e) {Q : Option Value -> Shared -> Prop}
    (hQ : ∀ h', a2z w h' I a S (i + 1) es.size ep -> Heap.SameBut I s.heap h' -> Q (some e.2) { s with heap := h' }) : wpAny (model prog w) A (pyNext (.ref I)) Q E s := by
  have hsz : (ordN w a ep es).size = es.size := by have := (a5a w a ep es).length_eq; simpa using this
  have hi : i < es.size := by erw [← hsz]; exact (Array.getElem?_eq_some_iff.mp hx).1
  have hfit := a3x (led := a6w w) hS.1 hS.2.1.size
  unfold a2z at hI
  rw [b4x] at hI
  have hT : s.TypeIs (.ref I) "set_iterator" := ⟨_, hI, rfl⟩
  unfold pyNext
  refine wpAny_bind (wpAny_attempt (wpAny_callSpecial?_slot (name := Str.ofString "__next__") hT si_slot_next
    (wpAny_call_entry si_slot_next hT a6k ?_ (a7f _))))
  unfold Builtin.«set_iterator.__next__»
  erw [b0a]
  refine wpAny_bind (wpAny_pure ?_)
  refine wpAny_bind (wpAny_fieldsOf hI rfl ?_)
  dsimp only
  refine wpAny_bind (wpAny_setEntries_of hS.2.2 rfl hfit ?_)
  rw [if_neg (by simp)]
  refine wpAny_bind ?_
  refine a9z hS (Nat.le_of_lt hi) ?_
  erw [hx]
  dsimp only [Option.map_some]
  refine wpAny_bind (wpAny_setField hI rfl (by simp) ?_)
  have h1 := Heap.get?_update_self (Obj.mapFields (·.setIfInBounds 0 (rawInt (b2z w S (i + 1) : Int)))) hI (Obj.isFreed_of_fields (Obj.data_mapFields rfl _))
  refine wpAny_bind (wpAny_setField h1 (Obj.data_mapFields rfl _) (by simp) ?_)
  have h2 := Heap.get?_update_self (Obj.mapFields (·.setIfInBounds 1 (rawInt ((i : Int) + 1)))) h1 (Obj.isFreed_of_fields (Obj.data_mapFields (Obj.data_mapFields rfl _) _))
  refine wpAny_pure ⟨_, rfl, wpAny_pure (hQ _ ?_ ((Heap.SameBut.update ..).trans (Heap.SameBut.update ..)))⟩
  unfold a2z
  erw [h2, b4x]
  rfl
theorem c4u {I a : Addr} {S : List Nat} {ep : Nat} {es : Array (Int × Value)} (hh : A.handled = none) (hI : a2z w s.heap I a S es.size es.size ep) (hS : SetIs w s.heap a S ep es) {Q : Option Value -> Shared -> Prop}
    (hQ : ∀ h', Heap.ExtBut I s.heap h' -> Q none { s with heap := h' }) : wpAny (model prog w) A (pyNext (.ref I)) Q E s := by
  have hsz : (ordN w a ep es).size = es.size := by have := (a5a w a ep es).length_eq; simpa using this
  have hfit := a3x (led := a6w w) hS.1 hS.2.1.size
  unfold a2z at hI
  rw [b4x] at hI
  have hT : s.TypeIs (.ref I) "set_iterator" := ⟨_, hI, rfl⟩
  unfold pyNext
  refine wpAny_bind (wpAny_attempt (wpAny_callSpecial?_slot (name := Str.ofString "__next__") hT si_slot_next
    (wpAny_call_entry si_slot_next hT a6k ?_ (a7f _))))
  unfold Builtin.«set_iterator.__next__»
  erw [b0a]
  refine wpAny_bind (wpAny_pure ?_)
  refine wpAny_bind (wpAny_fieldsOf hI rfl ?_)
  dsimp only
  refine wpAny_bind (wpAny_setEntries_of hS.2.2 rfl hfit ?_)
  rw [if_neg (by simp)]
  refine wpAny_bind ?_
  refine a9z hS (Nat.le_refl _) ?_
  rw [Array.getElem?_eq_none (om56 hsz)]
  dsimp only [Option.map_none]
  refine wpAny_bind (wpAny_setField hI rfl (by simp) ?_)
  show wpAny _ _ (newExc (.type "StopIteration") [] >>= _) _ _ _
  refine wpAny_bind ?_
  simp only [newExc, newTuple]
  refine wpAny_bind (wpAny_newObj_type ?_ (by size_fits))
  refine wpAny_bind (m := firstArgMember _ _) (wpAny_of_eq (a := Value.none) (by first | rfl | (simp only [firstArgMember]; rfl)) ?_)
  refine wpAny_newObj_type ?_ (by size_fits)
  simp only [raiseNew]
  refine wpAny_bind (wpAny_handled ?_)
  erw [show A.in1.handled = none from hh]
  refine wpAny_bind (wpAny_pure (wpAny_throw ?_))
  refine wpAny_bind (wpAny_isInstance (T := "StopIteration") (b := true) ⟨_, Heap.get?_push_size _ rfl, rfl⟩ isSubtype_stop ?_)
  exact wpAny_pure (hQ _ (((Heap.SameBut.update ..).extBut.push _).push _))
end
end Mine
end
section
namespace Mine
open PySem PyProof.Rows
section
variable {prog : Program} {w : World} {A : Around} {E : Value -> Shared -> Prop} {s : Shared}
theorem c4v {r : Addr} {Q : Bool -> Shared -> Prop} (hT : s.TypeIs (.ref r) "set") (h : Q false s) : wpAny (model prog w) A (Builtin.List.listLengthHint (.ref r)) Q E s := by
  unfold Builtin.List.listLengthHint
  refine wpAny_bind (wpAny_specialOf hT PySem.F.slot_set_len.lookup ?_)
  generalize hid : ("set.__len__" : String) = id0
  wp_delta
  erw [show splitId id0 = some ("set", "__len__") from by subst hid; decide +kernel]
  subst hid
  refine wpAny_bind (wpAny_isInstance (T := "set") (b := true) hT (by erw [isSubtype_type]; kernel_rfl) ?_)
  refine wpAny_ite_split (fun hab => absurd hab (by decide)) (fun ζ => ?_)
  refine wpAny_ite_split (fun ζ => ?_) (fun hab => absurd (by decide +kernel) hab)
  refine wpAny_bind (wpAny_typeOf hT ?_)
  exact wpAny_pure h
theorem c0y (hh : A.handled = none) (I a : Addr) (hne : a ≠ I) (S : List Nat) (ep : Nat) (es : Array (Int × Value)) :
    Walks prog w A I [I, a] [I] es.size (fun i v => ∃ e, (ordN w a ep es)[i]? = some e /\ v = e.2) (fun i h => a2z w h I a S i es.size ep /\ SetIs w h a S ep es) where
  sub := fun b hb => by simp at hb; simp [hb]
  frame := fun ζ ζ ζ st hk => ⟨hk I (by simp) _ st.1, st.2.same fun o e => hk a (by simp) o e⟩
  item := fun i s Q E hi st hQ => by
    have hsz : (ordN w a ep es).size = es.size := by have := (a5a w a ep es).length_eq; simpa using this
    have hlt : i < (ordN w a ep es).size := by exact om39 hi hsz
    refine c0x st.1 st.2 (Array.getElem?_eq_getElem hlt) fun h' hit' hs' => ?_
    exact hQ _ h' s.toks ⟨_, Array.getElem?_eq_getElem hlt, rfl⟩ ⟨hit', st.2.same fun o e => hs'.extBut a o hne e⟩ fun b o hb e => hs'.extBut b o (fun h => hb (by simp [h])) e
  done := fun s Q E st hQ => c4u hh st.1 st.2 fun h' he' => hQ h' s.toks fun b o hb e => he' b o (fun h => hb (by simp [h])) e
  self := fun i s Q E st hQ => by
    have hT : s.TypeIs (.ref I) "set_iterator" := ⟨_, st.1, rfl⟩
    refine wpAny_pyIter_slot hT a7g (wpAny_call_entry a7g hT b1c ?_ (b2y _))
    show wpAny _ _ (ret (.ref I)) _ _ s
    exact wpAny_pure ⟨_, rfl, "set_iterator", _, hT, si_slot_next.lookup, hQ⟩
theorem c9h {a : Addr} {S : List Nat} {ep : Nat} {es : Array (Int × Value)} : Src prog w "set" a es.size (fun i v => ∃ e, (ordN w a ep es)[i]? = some e /\ v = e.2) (fun h => SetIs w h a S ep es) where
  kind := fun ζ hm => ⟨⟨_, hm.2.2, rfl⟩, Heap.lt_size hm.2.2⟩
  keep := fun ζ ζ hm hk => hm.same fun o e => hk o e
  other := ⟨by decide, by decide⟩
  hint := fun ζ ζ ζ ζ hm hq => c4v ⟨_, hm.2.2, rfl⟩ hq
  walk := fun ζ s hh hm => ⟨_, _, (fun ζ ζ hq => b7u hm hq), c0y hh _ a (Nat.ne_of_lt (Heap.lt_size hm.2.2)) S ep es, ⟨Heap.get?_push_size _ rfl, hm.same fun o e => Heap.get?_push_of_some _ e⟩⟩
theorem b4y {a : Addr} {S : List Nat} {ep : Nat} {es : Array (Int × Value)} {R : List Value -> Shared -> Prop} (hh : A.handled = none) (hS : SetIs w s.heap a S ep es)
    (h : ∀ (h' : Heap) (tk : Nat) (vs : List Value) (ns : List Int), (∀ b o, s.heap.get? b = some o -> h'.get? b = some o) -> IntsAre vs ns -> ns.Perm (S.map fun (x : Nat) => (x : Int)) -> R vs { s with heap := h', toks := tk }) :
    wpAny (model prog w) A (collect (.ref a)) R E s := by
  have hl := hS.1.len
  have hsz := hS.2.1.size
  have hoz : (ordN w a ep es).size = es.size := by have := (a5a w a ep es).length_eq; simpa using this
  refine a8o (c9h (S := S)) hh hS (by erw [sizeLine_eq]; exact om57 hsz hl) fun h' tk acc hk hacc => ?_
  refine h h' tk acc.toList ((ordN w a ep es).toList.map (·.1)) hk ?_ ?_
  . have key : ∀ (vs : List Value) (l : List (Int × Value)), vs.length = l.length -> (∀ (j : Nat) v, vs[j]? = some v -> ∃ e, l[j]? = some e /\ v = e.2) -> (∀ e ∈ l, ∃ t, e.2 = .int e.1 t) -> IntsAre vs (l.map (·.1)) := by
      intro vs
      induction vs with
      | nil => intro l hl _ _; cases l with
        | nil => exact .nil
        | cons a b => simp at hl
      | cons v vs ih =>
        intro l hl hv ht
        cases l with
        | nil => simp at hl
        | cons e l =>
          obtain ⟨e', he, rfl⟩ := hv 0 v rfl
          simp at he; subst he
          obtain ⟨t, ht'⟩ := ht e (by simp)
          erw [ht']
          exact .cons _ _ (ih l (by simpa using hl) (fun j v' hj => by simpa using hv (j + 1) v' (by simpa using hj)) fun e he => ht e (by simp [he]))
    refine key _ _ (by erw [Array.length_toList, hacc.1]; simp [hoz]) (fun j v hj => ?_) fun e he => ?_
    . obtain ⟨e, he, rfl⟩ := hacc.2 j v (by erw [← Array.getElem?_toList]; exact hj)
      exact ⟨e, by erw [Array.getElem?_toList]; exact he, rfl⟩
    . have := (a5a w a ep es).mem_iff.mp he
      obtain ⟨i, hi⟩ := List.mem_iff_getElem?.mp this
      rw [Array.getElem?_toList] at hi
      obtain ⟨n, t, _, rfl⟩ := hS.2.1.at_ i e hi
      exact ⟨t, rfl⟩
  . refine ((a5a w a ep es).map (·.1)).trans ?_
    have := congrArg Array.toList hS.2.1.hashes
    rw [Array.toList_map] at this
    erw [this]; exact List.Perm.refl _
set_option tactic.hygienic true in
theorem b6q (val : Nat -> Nat) : ∀ (n : Nat) (x : Nat), x ∈ setN val n ↔ ∃ i, i < n /\ val i = x
  | 0, x => by simp [setN]
  | n + 1, x => by
    have ih := b6q val n x
    have : x ∈ addN (setN val n) (val n) ↔ x = val n ∨ x ∈ setN val n := by
      unfold addN
      split
      . rename_i h
        exact ⟨.inr, fun h' => h'.elim (fun e => e ▸ h) id⟩
      . exact insN_mem
    show x ∈ addN (setN val n) (val n) ↔ _
    rw [this, ih]
    constructor
    . rintro (rfl | ⟨i, hi, e⟩)
      . exact ⟨n, by exact om58, rfl⟩
      . exact ⟨i, by exact om59 hi, e⟩
    . rintro ⟨i, hi, e⟩
      by_cases h : i = n
      . exact .inl (by erw [← e, h])
      . exact .inr ⟨i, by exact om60 hi h, e⟩
end
end Mine
end
section
open PySem PyProof.Rows PySem.SeqAt
namespace Mine
noncomputable def a6x (ns : List Nat) : List Nat := (List.range 8).filter fun x => decide (x ∈ ns)
section
variable {W : World0} {k : Nat} {A : Around} {s s' s'' : Shared} {F : Addr -> Prop} {sc : Scope}
variable {gl : Str -> Option Value} {X : Cx} {names : List Str} {ρ ρ' : List (Option V)} {σ σ' σ'' : List O} {Λ Λ' : Addr -> Prop} {ad ad' : List Addr}
theorem c4w {ns : List Nat} {S : List Nat} (hS : okS S) (hm : ∀ x, x ∈ S ↔ x ∈ ns) : S = a6x ns := by
  have nd : S.Nodup := hS.1.imp fun hh => Nat.ne_of_lt hh
  refine List.Perm.eq_of_pairwise (le := (· < ·)) (fun a b ζ ζ h1 h2 => absurd (Nat.lt_trans h1 h2) (Nat.lt_irrefl _)) hS.1 (List.Pairwise.filter _ List.pairwise_lt_range) ?_
  refine (List.perm_ext_iff_of_nodup nd (List.Pairwise.filter _ List.nodup_range)).mpr fun x => ?_
  simp only [a6x, List.mem_filter, List.mem_range, decide_eq_true_eq]
  exact ⟨fun hx => ⟨hS.2 x hx, (hm x).mp hx⟩, fun hx => (hm x).mpr hx.2⟩
theorem b7v (ns : List Nat) {l : List Int} (h : l.Perm ((a6x ns).map fun (x : Nat) => (x : Int))) : a7n l = (a6x ns).map fun (x : Nat) => (x : Int) := by
  refine a3t ((a4x l).trans h) (a5q l) ?_
  refine List.Pairwise.map _ (fun a b h => ?_) (List.Pairwise.filter _ List.pairwise_lt_range)
  have : a < b := h
  exact om23 h
theorem c4x {vs : List Value} {ns : List Nat} {h : Heap} {G : Addr -> Prop} (r : DRels gl h G vs (a0a ns)) : IntsAre vs (ns.map fun (x : Nat) => (x : Int)) := by
  induction ns generalizing vs with
  | nil => cases r; exact .nil
  | cons n ns ih =>
    cases r with
    | cons a b => exact a.intI.elim fun t e => e ▸ .cons _ t (ih b)
theorem TE.sortedSet (hW : WOk W) {e : CE} {Q : V -> List O -> Prop} (t : TE W k e ρ σ fun v σ' => ∃ ns : List Nat, lstV σ' v = some (a0a ns) /\ (∀ x ∈ ns, x < 8) /\ Q (.d (.lst (a0a (a6x ns)))) σ') : TE W k (.prim "sorted" [.prim "set" [e]]) ρ σ Q :=
  fun names sc E he X hk hr hw Λ ad s S => by
    replace he := a3c he; obtain ⟨x, px, args, pos, rfl, he⟩ := he
    . skip
      simp only [Bool.and_eq_true] at he
      obtain ⟨⟨hg, hes⟩, _⟩ := he
      first | (replace hes := a0g hes; obtain ⟨y, ys, rfl, hes⟩ := hes) | (replace hes := a0p hes; obtain ⟨rfl, hes⟩ := hes)
      . skip
        simp only [Bool.and_eq_true] at hes
        obtain ⟨hy, hnil⟩ := hes
        have hnil' := hnil
        first | (replace hnil := a0g hnil; obtain ⟨_, _, rfl, hnil⟩ := hnil) | (replace hnil := a0p hnil; obtain ⟨rfl, hnil⟩ := hnil)
        . refine Call_ (a2h hW hk hw S (f := "sorted") (by decide) hg (v := .builtin "sorted") (by decide +kernel) (by decide) ?_)
          refine callWith_builtin1 ?_ (a0m hy _ _) (b6f hnil' pos)
          erw [a0m hy]
          refine Calls.spliced_cons ?_
          replace hy := a3c hy; obtain ⟨_, _, _, _, rfl, hy⟩ := hy
          . simp only [Bool.and_eq_true] at hy
            refine a4v hW (f := "set") (by decide) (v := .type "set") (by decide +kernel) (by decide) (.inr ⟨_, rfl⟩) (es := [e]) (by simp) hy.1.1 hy.1.2 hk hr hw S (Q := fun vals σ' => ∃ v, vals = [v] /\ ∃ ns : List Nat, lstV σ' v = some (a0a ns) /\ (∀ x ∈ ns, x < 8) /\ Q (.d (.lst (a0a (a6x ns)))) σ') (t.mono fun v σ' h => ⟨v, rfl, h⟩) fun vs s₁ vals σ₁ Λ₁ ad₁ S₁ P₁ r₁ q => ?_
            obtain ⟨v, rfl, ns, hl, h8, q⟩ := q
            obtain ⟨v', rfl, r⟩ := r₁.one
            obtain ⟨a, ws, n, rfl, h1, h2⟩ := a4e S₁ r hl
            refine c4t (s := s₁) hr.1 (a0c h1) (ns := ns) (by simpa using c4x h2) h8 fun h' tk ep es hS' hk' => ?_
            refine Calls.spliced_nil ?_
            have hk1 : ∀ b o, s₁.heap.get? b = some o -> h'.get? b = some o := fun b o e => hk' b o (Heap.lt_size e) e
            refine Calls.call_function_entry kind_sorted plain_sorted entry_sorted (args_sorted1 _) ?_
            unfold Builtin.«sorted»
            refine wpAny_bind (m := checkCount "sorted" 1 1 _) (wpAny_pure ?_)
            refine wpAny_bind (b4y (s := { s₁ with heap := h', toks := tk }) (A := X.A.in1) hr.1 hS' fun h2 tk2 vs ms hk2 hI hp => ?_)
            have hS1 := hS'.1
            have heq : setN (fun i => ns.getD i 0) ns.length = a6x ns := c4w hS1 fun x => by
              rw [b6q]
              constructor
              . rintro ⟨i, hi, rfl⟩
                erw [List.getD_eq_getElem?_getD, List.getElem?_eq_getElem hi]; exact List.getElem_mem _
              . intro hx
                obtain ⟨i, hi⟩ := List.mem_iff_getElem?.mp hx
                exact ⟨i, (List.getElem?_eq_some_iff.mp hi).1, by erw [List.getD_eq_getElem?_getD, hi]; rfl⟩
            rw [heq] at hp
            have hlen : ms.length < 64 := by
              erw [hp.length_eq, List.length_map]
              have : (a6x ns).length <= 8 := by unfold a6x; exact Nat.le_trans (List.length_filter_le _ _) (by simp)
              exact om61 this
            refine wpAny_bind (wpAny_mono (b2o (W := W) (A := X.A.in1) (s := s₁) (F := Un Λ₁ X.Φ) (tk := tk2) hI hlen S₁.usedF (fun b o e => hk2 b o (hk1 b o e)) (E := fun ζ ζ => False) (Q := fun v s' => Post W.gl X names ρ σ Λ ad s Q v s') fun v s' g1 g2 g3 g4 => ?_) (fun l s₁ h₁ => ?_) fun ζ ζ e => e)
            . refine Post.trans P₁ (Post.pure S₁ (.of_keeps g1 g2 g3) (.d ?_) q)
              rw [b7v ns hp] at g4
              simpa [a0a, Function.comp_def] using g4
            . exact wpAny_bind (wpAny_holding (wpAny_mono h₁ (fun ζ s₂ h₂ => wpAny_pure ⟨_, rfl, h₂⟩) fun ζ ζ e => e))
end
end Mine
end
section
open PySem PyProof.Rows
namespace Mine
noncomputable def a3a (s N : Nat) (t : List Nat) (e a : Nat) : List Nat := (((List.range s).map fun c => e * s + c).filter fun n => t[n]? == some a).map fun n => n % N
theorem steps_mem {s N : Nat} {t : List Nat} {e a x : Nat} : x ∈ a3a s N t e a ↔ ∃ c, c < s /\ t[e * s + c]? = some a /\ (e * s + c) % N = x := by
  unfold a3a
  rw [List.mem_map]
  constructor
  . rintro ⟨n, hn, rfl⟩
    rw [List.mem_filter, beq_iff_eq] at hn
    obtain ⟨hm, ht⟩ := hn
    obtain ⟨c, hc, rfl⟩ := List.mem_map.mp hm
    exact ⟨c, List.mem_range.mp hc, ht, rfl⟩
  . rintro ⟨c, hc, ht, rfl⟩
    exact ⟨_, List.mem_filter.mpr ⟨List.mem_map.mpr ⟨c, List.mem_range.mpr hc, rfl⟩, by rw [beq_iff_eq]; exact ht⟩, rfl⟩
theorem a7h {n N : Nat} (hN : N <= n) {p : Nat -> Bool} (h : ∀ x, p x = true -> x < N) : (List.range n).filter p = (List.range N).filter p := by
  induction n with
  | zero => cases Nat.le_zero.mp hN; rfl
  | succ n ih =>
    by_cases e : N = n + 1
    . erw [e]
    . have hn : N <= n := Nat.le_of_lt_succ (Nat.lt_of_le_of_ne hN e)
      erw [List.range_succ, List.filter_append, ih hn]
      have : p n = false := by
        cases hp : p n with
        | false => rfl
        | true => exact absurd (h n hp) (Nat.not_lt.mpr hn)
      erw [List.filter_cons, this]; exact List.append_nil _
theorem b4z {s N : Nat} {t ends : List Nat} {a : Nat} (hN : 0 < N) (hN8 : N <= 8) : a6x (ends.flatMap fun e => a3a s N t e a) = a1n s N t ends a := by
  unfold a6x a1n
  have hp : ∀ x, decide (x ∈ ends.flatMap fun e => a3a s N t e a) = hitB s N t ends a x := fun x => by
    rw [Bool.eq_iff_iff, decide_eq_true_eq, hitB_iff, List.mem_flatMap]
    constructor
    . rintro ⟨e, he, hx⟩
      obtain ⟨c, h⟩ := steps_mem.mp hx
      exact ⟨e, he, c, h⟩
    . rintro ⟨e, he, c, h⟩
      exact ⟨e, he, steps_mem.mpr ⟨c, h⟩⟩
  erw [show (fun x => decide (x ∈ ends.flatMap fun e => a3a s N t e a)) = hitB s N t ends a from funext hp]
  refine a7h hN8 fun x hx => ?_
  obtain ⟨_, _, _, _, _, rfl⟩ := hitB_iff.mp hx
  exact Nat.mod_lt _ hN
theorem b3a (s N : Nat) (t : List Nat) (e a : Nat) : (a3a s N t e a).length <= s := by
  unfold a3a
  erw [List.length_map]
  exact Nat.le_trans (List.length_filter_le _ _) (by erw [List.length_map, List.length_range]; exact Nat.le_refl _)
theorem b6r (s N : Nat) (t : List Nat) (a : Nat) : ∀ l : List Nat, (l.flatMap fun e => a3a s N t e a).length <= l.length * s
  | [] => Nat.zero_le _
  | e :: l => by
    erw [List.flatMap_cons, List.length_append, List.length_cons, Nat.succ_mul, Nat.add_comm]
    exact Nat.add_le_add (b6r s N t a l) (b3a s N t e a)
theorem a8x {p : D -> Bool} {q : Nat -> Bool} (h : ∀ n : Nat, p (.int (n : Int)) = q n) : ∀ l : List Nat, (a0a l).filter p = a0a (l.filter q)
  | [] => rfl
  | x :: l => by
    show (D.int (x : Int) :: a0a l).filter p = _
    erw [List.filter_cons, List.filter_cons, h, a8x h l]
    cases q x <;> rfl
theorem c0z (f : Nat -> Nat) (l : List Nat) : a0a (l.map f) = (a0a l).map fun d => match d with | .int i => .int ((f i.toNat : Nat) : Int) | _ => .none := by
  unfold a0a
  erw [List.map_map, List.map_map]; rfl
section
variable {W : World0} {k : Nat}
theorem b3b (hf : HasF W "_law_many" b1w) {s w : Nat} {t : List Nat} (R : OkR s w t) : Spec W (k + 1) "_law_many" [.d (a0k s w t)] (.int ((s ^ (w - 1) : Nat) : Int)) := by
  refine Spec.intro hf rfl (TS.retV (tape := [.int ((s ^ (w - 1) : Nat) : Int)]) rfl ⟨?_, .inr (lt64 R.s1000), .inr (lt64 R.s1000), .inr (lt64 R.s1000), trivial⟩ rfl)
  erw [a6i R.w1]
  refine a0n (b := true) rfl (by decide : 4 <= 16777216) ?_
  rcases (by decide : ∀ w, w < 5 -> 1 <= w -> (w = 1 ∨ w = 2 ∨ w = 3 ∨ w = 4)) w (Nat.lt_succ_of_le R.w4) R.w1 with rfl | rfl | rfl | rfl
  . rfl
  . show some (D.int (s : Int)) = some (.int ((s ^ 1 : Nat) : Int)); erw [Nat.pow_one]
  . show some (D.int ((s : Int) * s)) = some (.int ((s ^ 2 : Nat) : Int)); erw [Nat.pow_two]; rfl
  . show some (D.int ((s : Int) * s * s)) = some (.int ((s ^ 3 : Nat) : Int)); erw [Nat.pow_succ, Nat.pow_two]; rfl
theorem c4y (i : Nat) (N : Nat) : D.int ((i : Int).fmod N) = .int (((i : Int).toNat % N : Nat) : Int) := by erw [a3u, Int.toNat_natCast]
theorem b7w (H : HasR W) (hm : HasF W "_law_many" b1w) (hf : HasF W "_law_steps" b0i) {s w : Nat} {t : List Nat} (R : OkR s w t) {e a : Nat} (he : e < s ^ (w - 1)) : Spec W (k + 2) "_law_steps" [.d (a0k s w t), .d (.int e), .d (.int a)] (.lst (a0a (a3a s (s ^ (w - 1)) t e a))) := by
  refine Spec.intro hf rfl (TS.asgCR H.ok (fun c => .int ((e * s + c : Nat) : Int)) rfl trivial (a1k R.s1000) (fun j hj => TEq.ev rfl ⟨.inr (lt64 R.s1000), trivial⟩) ?_)
  have el : (List.range s).map (fun c => D.int ((e * s + c : Nat) : Int)) = a0a ((List.range s).map fun c => e * s + c) := by unfold a0a; erw [List.map_map]; rfl
  erw [el]
  have hl : (a0a ((List.range s).map fun c => e * s + c)).length <= 16777216 := by erw [a0b, List.length_map, List.length_range]; exact a1k R.s1000
  have ef : ((a0a ((List.range s).map fun c => e * s + c)).filter (fun d => match d with | .int i => t[i.toNat]? == some a | _ => false)).map (fun d => match d with | .int i => .int ((i.toNat % s ^ (w - 1) : Nat) : Int) | _ => .none) = a0a (a3a s (s ^ (w - 1)) t e a) := by
    rw [a8x (q := fun n => t[n]? == some a) fun n => by show (t[(n : Int).toNat]? == some a) = _; erw [Int.toNat_natCast]]
    unfold a3a
    erw [c0z]
  refine TS.retV (tape := [.lst (a0a (a3a s (s ^ (w - 1)) t e a))]) rfl ⟨ef ▸ TEq.compF _ _ rfl trivial rfl rfl hl (fun x hx => ?_) (fun x hx ζ => ?_), trivial⟩ rfl
  all_goals
    obtain ⟨n, hn, rfl⟩ := List.mem_map.mp hx
    obtain ⟨c, hc, rfl⟩ := List.mem_map.mp hn
    obtain ⟨v, hv⟩ := b4w R he (List.mem_range.mp hc)
  . have : (match D.int ((e * s + c : Nat) : Int) with | .int i => t[i.toNat]? == some a | _ => false) = (((v : Nat) : Int) == ((a : Nat) : Int)) := by
      show (t[((e * s + c : Nat) : Int).toNat]? == some a) = _
      erw [Int.toNat_natCast, hv, Bool.eq_iff_iff, beq_iff_eq, beq_iff_eq]
      exact ⟨fun h => by erw [Option.some.inj h], fun h => by erw [Int.ofNat.inj h]⟩
    erw [this]
    exact TCv.ev (tape := [.int (v : Int)]) rfl ⟨a0n (b := false) rfl R.len16 (a2l hv), trivial⟩
  . show TEq _ _ _ _ _ (.int ((((e * s + c : Nat) : Int).toNat % s ^ (w - 1) : Nat) : Int))
    erw [← c4y]
    exact TEq.ev (tape := [.int ((s ^ (w - 1) : Nat) : Int)]) rfl ⟨a2m R.pos, b3b hm R, trivial⟩
theorem c1a {α β : Type} {l : List α} {n : Nat} {a : α} (f : α -> List β) (h : l[n]? = some a) : (l.take (n + 1)).flatMap f = (l.take n).flatMap f ++ f a := by
  erw [c0r h, List.flatMap_append]
  simp only [List.flatMap_cons, List.flatMap_nil, List.append_nil]
theorem b3c (H : HasR W) (hm : HasF W "_law_many" b1w) (hs : HasF W "_law_steps" b0i) (hf : HasF W "_law_further" a7y) {s w : Nat} {t : List Nat} (R : OkR s w t) {ends : List Nat} {a : Nat} (he : ∀ e ∈ ends, e < s ^ (w - 1)) (hl : ends.length <= 1000) :
    Spec W (k + 3) "_law_further" [.d (a0k s w t), .d (.tup (a0a ends)), .d (.int a)] (.tup (a0a (a1n s (s ^ (w - 1)) t ends a))) := by
  have hfl : ∀ n, ((ends.take n).flatMap fun e => a3a s (s ^ (w - 1)) t e a).length <= 4000 := fun n => Nat.le_trans (b6r _ _ _ _ _) (Nat.mul_le_mul (Nat.le_trans (by erw [List.length_take]; exact Nat.min_le_right _ _) hl) R.s4)
  refine Spec.intro hf rfl (TS.asgV rfl trivial (TS.forS rfl trivial rfl rfl (by erw [List.length_map, a0b]; exact a1k hl)
    (fun n ρ σ => ∃ x, ρ = [some (.d (a0k s w t)), some (.d (.tup (a0a ends))), some (.d (.int a)), some (.d (.lst (a0a ((ends.take n).flatMap fun e => a3a s (s ^ (w - 1)) t e a)))), x] /\ σ = []) ⟨none, rfl, rfl⟩ ?_ ?_))
  . rintro n x _ _ hx ⟨_, rfl, rfl⟩
    obtain ⟨e, hen, rfl⟩ := a3e hx
    refine TS.asgV (tape := [.lst (a0a (a3a s (s ^ (w - 1)) t e a))]) rfl ⟨?_, b7w H hm hs R (he e (List.mem_of_getElem? hen)), trivial⟩ (TS.nil ⟨some (.d (.int (e : Int))), ?_, rfl⟩)
    . erw [a0b, a0b]
      exact Nat.le_trans (Nat.add_le_add (hfl n) (Nat.le_trans (b3a _ _ _ _ _) R.s4)) (by decide)
    . erw [c1a _ hen]
      unfold a0a
      erw [List.map_append]; rfl
  . rintro _ _ ⟨_, rfl, rfl⟩
    erw [List.length_map, a0b, List.take_length]
    refine TS.retV (tape := [.tup (a0a (a1n s (s ^ (w - 1)) t ends a))]) rfl ⟨TEq.tuple H.ok ?_ ?_, trivial⟩ rfl
    . erw [← b4z R.pos R.n8]
      refine TE.sortedSet H.ok (TE.ev rfl trivial ⟨_, rfl, fun x hx => ?_, rfl, rfl⟩)
      refine xEA (List.mem_flatMap.mp hx) fun e ζ hx => ?_
      obtain ⟨_, _, _, rfl⟩ := steps_mem.mp hx
      exact Nat.lt_of_lt_of_le (Nat.mod_lt _ R.pos) R.n8
    . erw [a0b]
      unfold a1n
      exact Nat.le_trans (List.length_filter_le _ _) (by erw [List.length_range]; exact Nat.le_trans R.n8 (by decide))
end
end Mine
end
section
open PySem PyProof.Rows PySem.SeqAt
namespace Mine
section
variable {W : World0} {k : Nat} {A : Around} {s : Shared} {F : Addr -> Prop} {gl : Str -> Option Value} {σ : List O} {ρ : List (Option V)}
theorem ERelI.key {h : Heap} {G : Addr -> Prop} {es : List DictEntry} {l : List (Int × D)} (r : ERelI gl h G es l) : ∀ {i : Nat} {e : DictEntry}, es[i]? = some e -> ∃ t, e.key = .int ((l.map (·.1)).getD i 0) t := by
  induction l generalizing es with
  | nil => cases r; intro i e h; simp at h
  | cons p l ih =>
    cases r with
    | cons h1 h2 =>
      intro i e he
      cases i with
      | zero => cases he; exact ⟨_, rfl⟩
      | succ i => exact ih h2 (by simpa using he)
theorem ERelI.len {h : Heap} {G : Addr -> Prop} {es : List DictEntry} {l : List (Int × D)} (r : ERelI gl h G es l) : es.length = l.length := by
  induction l generalizing es with
  | nil => cases r; rfl
  | cons p l ih => cases r with | cons h1 h2 => exact congrArg Nat.succ (ih h2)
noncomputable def b0b (l : List (Int × D)) : Int := (l.map (·.1)).getD (argBest (fun i j => decide ((l.map (·.1)).getD i 0 < (l.map (·.1)).getD j 0)) (l.length - 1)) 0
theorem b7x {l : List (Int × D)} (hne : l ≠ []) : b0b l ∈ l.map (·.1) := by
  have h := (argBest_lt (fun i => (l.map (·.1)).getD i 0) (l.length - 1)).1
  have hl : 0 < l.length := List.length_pos_iff.mpr hne
  have : argBest (fun i j => decide ((l.map (·.1)).getD i 0 < (l.map (·.1)).getD j 0)) (l.length - 1) < (l.map (·.1)).length := by erw [List.length_map]; exact om62 hl h
  unfold b0b
  erw [List.getD_eq_getElem?_getD, List.getElem?_eq_getElem this]
  exact List.getElem_mem _
theorem c1b {l : List (Int × D)} {z : Int} (h : z ∈ l.map (·.1)) : b0b l <= z := by
  obtain ⟨i, hi, rfl⟩ := List.mem_iff_getElem.mp h
  have := (argBest_lt (fun i => (l.map (·.1)).getD i 0) (l.length - 1)).2 i (by rw [List.length_map] at hi; exact om63 hi)
  have e : (l.map (·.1)).getD i 0 = (l.map (·.1))[i] := by erw [List.getD_eq_getElem?_getD, List.getElem?_eq_getElem hi]; rfl
  rw [e] at this
  exact this
set_option tactic.hygienic true in
theorem b3d (hr : Room A k) {v : Value} {l : List (Int × D)} {G : Addr -> Prop} (r : DRel W.gl s.heap G v (.dI l)) (hne : l ≠ []) : Gives W A (PySem.call (.builtin "min") [v]) s F (.int (b0b l)) := by
  cases r with
  | dI h1 _ h2 h3 =>
    rename_i d es ep _
    intro L hL Q E q
    have hlen := h2.len
    have hd : d ≠ s.heap.objs.size := fun h => by rw [h, a0l] at h1; exact dNS h1
    refine call_min_walk (c4c (b6c h3.2) h1 ⟨_, _, _, _, _, _, _, rfl, b9t (A := A.in1) hr.1 hd es ep, ⟨Heap.get?_push_size _ rfl, Heap.get?_push_of_some _ h1⟩, fun b hb => ?_, ?_, CmpOf.ints_lt (fun i => (l.map (·.1)).getD i 0) (fun i v hv => ?_), fun v h' tk hP hk => ?_⟩)
    . rw [Heap.size_push]
      simp only [List.mem_cons, List.not_mem_nil, or_false] at hb
      rcases hb with rfl | rfl
      . exact Nat.lt_succ_self _
      . exact Nat.lt_succ_of_lt (Heap.lt_size h1)
    . erw [hlen]; exact List.length_pos_iff.mpr hne
    . obtain ⟨e, he, rfl⟩ := hv
      exact h2.key he
    . obtain ⟨e, he, rfl⟩ := hP
      rw [hlen] at he
      obtain ⟨t, ht⟩ := h2.key he
      erw [ht]
      refine q _ _ (.of_keeps (fun b o e => hk b o (fun hm => ?_) (Heap.get?_push_of_some _ e)) rfl rfl) (.int _ _)
      rw [List.mem_singleton.mp hm, a0l] at e; exact dNS e
theorem TE.minD (hW : WOk W) {e : CE} {Q : V -> List O -> Prop} (t : TE W k e ρ σ fun v σ' => ∃ l, a0i σ' v = some (.dI l) /\ l ≠ [] /\ Q (.d (.int (b0b l))) σ') : TE W k (.prim "min" [e]) ρ σ Q :=
  TE.primG hW (by decide) (v := .builtin "min") (by decide +kernel) (by decide) (.inl ⟨_, rfl⟩) (by simp) (t.mono fun v σ' h => by
    refine xEAA h fun l e1 hne q => ?_
    refine ⟨_, q, fun X names Λ ad s vs hr hw S rr => ?_⟩
    obtain ⟨v', rfl, r⟩ := rr.one
    exact b3d hr (a0r S r e1) hne)
theorem b3e (m : Nat) : Builtin.Range.rangeSize ((m : Int) - 1) (-1) (-1) = (m : Int) := by
  unfold Builtin.Range.rangeSize
  rw [if_neg (by decide)]
  by_cases h : (m : Int) - 1 > -1
  . erw [if_pos h]; show ((m : Int) - 1 - (-1) - 1) / 1 + 1 = m; erw [Int.ediv_one]; exact om64
  . erw [if_neg h]; exact om65 h
set_option tactic.hygienic true in
theorem TI.down (hW : WOk W) {a b c : CE} {m : Nat} {Q : List V -> List O -> Prop} (ta : TEq W k a ρ σ (.int ((m : Int) - 1))) (tb : TEq W k b ρ σ (.int (-1))) (tc : TEq W k c ρ σ (.int (-1))) (hm : m <= 1000) (q : Q ((List.range m).map fun (i : Nat) => .d (.int ((m - 1 - i : Nat) : Int))) σ) : TI W k (.prim "range" [a, b, c]) ρ σ Q :=
  fun names sc E he X hk hr hw Λ ad s S => by
    replace he := a3c he; obtain ⟨_, _, _, _, rfl, he⟩ := he
    simp only [Bool.and_eq_true] at he
    refine a4v hW (f := "range") (by decide) (v := .type "range") (by decide +kernel) (by decide) (.inr ⟨_, rfl⟩) (es := [a, b, c]) (by simp) he.1.1 he.1.2 hk hr hw S (Q := fun vals σ' => vals = [.d (.int ((m : Int) - 1)), .d (.int (-1)), .d (.int (-1))] /\ σ' = σ) (ta.to (tb.to (tc.to ⟨rfl, rfl⟩))) fun vs s₁ vals σ₁ Λ₁ ad₁ S₁ P₁ r₁ qq => ?_
    obtain ⟨rfl, rfl⟩ := qq
    cases r₁ with
    | cons r1 rn => cases rn with
      | cons r2 rn => cases rn with
        | cons r3 rn =>
          cases rn
          have d1 := r1.dInv
          have d2 := r2.dInv
          have d3 := r3.dInv
          cases d1; cases d2; cases d3
          rename_i t1 t2 t3
          refine call_range_3 (by decide) ?_ (Or.inl (PyProof.noPylong_small om66))
          have kk : Kept X.env.locals s₁ { s₁ with heap := s₁.heap.push { cls := .type "range", data := .fields #[.int ((m : Int) - 1) t1, .int (-1) t2, .int (-1) t3] }, toks := s₁.toks } := a1t
          have S₂ := S₁.kept kk
          refine b6g (W := W) (ex := a2n X.env) (σ := σ₁) (Λ := Λ₁) (ad := ad₁) (Φ := X.Φ) (s := { s₁ with heap := s₁.heap.push { cls := .type "range", data := .fields #[.int ((m : Int) - 1) t1, .int (-1) t2, .int (-1) t3] }, toks := s₁.toks }) (n := m) hr (IsRange.new _ _ _ _ _ _ _) (b0q (by omega) (by omega) (by omega) (by erw [b3e]; omega)) (b3e m) fun it s₂ wk => ?_
          refine ⟨_, σ₁, Λ₁, ad₁, S₂, P₁.trans (.of_kept S₁ kk), wk, by erw [List.length_map, List.length_range]; exact om67 hm, ?_⟩
          have e : ((List.range m).map fun (i : Nat) => V.d (.int ((m : Int) - 1 + (i : Int) * (-1)))) = (List.range m).map fun (i : Nat) => V.d (.int ((m - 1 - i : Nat) : Int)) := List.map_congr_left fun i hi => by
            have := List.mem_range.mp hi
            congr 2; omega
          erw [e]
          exact q
end
end Mine
end
section
open PySem PyProof.Rows PySem.SeqAt
namespace Mine
noncomputable def isiB : D -> String -> Bool
  | .none, _ => false
  | .bool _, c => c == "bool" || c == "int"
  | .int _, c => c == "int"
  | .str _, c => c == "str"
  | .tup _, c => c == "tuple"
  | .lst _, c => c == "list"
  | _, c => c == "dict"
noncomputable def isFn : D -> Bool
  | .fn _ => true
  | _ => false
inductive IsiC : String -> Prop
  | int : IsiC "int"
  | bool : IsiC "bool"
  | tuple : IsiC "tuple"
  | list : IsiC "list"
  | str : IsiC "str"
section
variable {W : World0} {k : Nat} {A : Around} {s : Shared} {F : Addr -> Prop} {σ : List O} {ρ : List (Option V)} {tape : List D} {cs : List Prop}
theorem c1c {v : Value} {x : D} {c : String} {G : Addr -> Prop} (r : DRel W.gl s.heap G v x) (hc : IsiC c) (hx : isFn x = false) : Gives W A (PySem.call (.builtin "isinstance") [v, .type c]) s F (.bool (isiB x c)) := by
  cases r with
  | none => cases hc with
    | int => exact .bool fun Q E q => IsiPair.NoneType_int (q _)
    | bool => exact .bool fun Q E q => IsiPair.NoneType_bool (q _)
    | tuple => exact .bool fun Q E q => IsiPair.NoneType_tuple (q _)
    | list => exact .bool fun Q E q => IsiPair.NoneType_list (q _)
    | str => exact .bool fun Q E q => IsiPair.NoneType_str (q _)
  | bool b => cases hc with
    | int => exact .bool fun Q E q => IsiPair.bool_int (q _)
    | bool => exact .bool fun Q E q => IsiPair.bool_bool (q _)
    | tuple => exact .bool fun Q E q => IsiPair.bool_tuple (q _)
    | list => exact .bool fun Q E q => IsiPair.bool_list (q _)
    | str => exact .bool fun Q E q => IsiPair.bool_str (q _)
  | int i t => cases hc with
    | int => exact .bool fun Q E q => IsiPair.int_int (q _)
    | bool => exact .bool fun Q E q => IsiPair.int_bool (q _)
    | tuple => exact .bool fun Q E q => IsiPair.int_tuple (q _)
    | list => exact .bool fun Q E q => IsiPair.int_list (q _)
    | str => exact .bool fun Q E q => IsiPair.int_str (q _)
  | str x t => cases hc with
    | int => exact .bool fun Q E q => IsiPair.str_int (q _)
    | bool => exact .bool fun Q E q => IsiPair.str_bool (q _)
    | tuple => exact .bool fun Q E q => IsiPair.str_tuple (q _)
    | list => exact .bool fun Q E q => IsiPair.str_list (q _)
    | str => exact .bool fun Q E q => IsiPair.str_str (q _)
  | tup h1 h2 => cases hc with
    | int => exact .bool fun Q E q => IsiPair.tuple_int h1 rfl (q _)
    | bool => exact .bool fun Q E q => IsiPair.tuple_bool h1 rfl (q _)
    | tuple => exact .bool fun Q E q => IsiPair.tuple_tuple h1 rfl (q _)
    | list => exact .bool fun Q E q => IsiPair.tuple_list h1 rfl (q _)
    | str => exact .bool fun Q E q => IsiPair.tuple_str h1 rfl (q _)
  | lst h1 _ h2 => cases hc with
    | int => exact .bool fun Q E q => IsiPair.list_int h1 rfl (q _)
    | bool => exact .bool fun Q E q => IsiPair.list_bool h1 rfl (q _)
    | tuple => exact .bool fun Q E q => IsiPair.list_tuple h1 rfl (q _)
    | list => exact .bool fun Q E q => IsiPair.list_list h1 rfl (q _)
    | str => exact .bool fun Q E q => IsiPair.list_str h1 rfl (q _)
  | dI h1 _ h2 _ => cases hc with
    | int => exact .bool fun Q E q => IsiPair.dict_int h1 rfl (q _)
    | bool => exact .bool fun Q E q => IsiPair.dict_bool h1 rfl (q _)
    | tuple => exact .bool fun Q E q => IsiPair.dict_tuple h1 rfl (q _)
    | list => exact .bool fun Q E q => IsiPair.dict_list h1 rfl (q _)
    | str => exact .bool fun Q E q => IsiPair.dict_str h1 rfl (q _)
  | dT h1 _ h2 _ => cases hc with
    | int => exact .bool fun Q E q => IsiPair.dict_int h1 rfl (q _)
    | bool => exact .bool fun Q E q => IsiPair.dict_bool h1 rfl (q _)
    | tuple => exact .bool fun Q E q => IsiPair.dict_tuple h1 rfl (q _)
    | list => exact .bool fun Q E q => IsiPair.dict_list h1 rfl (q _)
    | str => exact .bool fun Q E q => IsiPair.dict_str h1 rfl (q _)
  | fn _ => exact dTF hx
theorem c1d {c : String} (e : IsiC c) : c ∈ bltNames /\ bootBuiltins (Str.ofString c) = some (.type c) /\ Str.ofString c ≠ "__name__" := by
  cases e <;> exact ⟨by decide, by decide +kernel, by decide⟩
theorem TEq.isiT (hW : WOk W) {e : CE} {v : V} {x : D} {c : String} (h : pv W k σ ρ e [] tape = some (v, cs, [])) (hc : AllP cs) (hv : a0i σ v = some x) (hcc : IsiC c) (hx : isFn x = false) : TEq W k (.isi e c) ρ σ (.bool (isiB x c)) :=
  fun names sc E he X hk hr hw Λ ad s S => by
    replace he := b0k he; obtain ⟨f, px, a, y, py, pos, rfl, he⟩ := he
    simp only [Bool.and_eq_true] at he
    refine Call_ (a2h hW hk hw S (f := "isinstance") (by decide) he.1.1 (v := .builtin "isinstance") (by decide +kernel) (by decide) ?_)
    refine callWith_builtin1 (args_cons (wpAny_mono (TEv.ev h hc names sc a he.1.2 X hk hr hw Λ ad s S) (fun v s₁ h₁ => ?_) fun ζ ζ f => f) (a0m he.1.2 _ _)) (a0m he.1.2 _ _) rfl
    obtain ⟨val, σ₁, Λ₁, ad₁, S₁, P₁, r₁, rfl, rfl⟩ := h₁
    refine xAA (c1d hcc) fun b1 b2 b3 => ?_
    refine args_cons (a2h hW hk hw S₁ b1 he.2 b2 b3 ?_) rfl
    refine args_nil ?_
    exact wpAny_mono ((c1c (a0r S₁ r₁ hv) hcc hx).post S₁ ⟨rfl, rfl⟩) (fun v s₂ h₂ => h₂.trans P₁) fun ζ ζ f => f
end
end Mine
end
section
open PySem PyProof.Rows
namespace Mine
section
variable {W : World0} {k : Nat} {σ : List O} {ρ : List (Option V)}
theorem TCv.orT {a : CE} {l : List CE} (ta : TCv W k a ρ σ true) : TCv W k (.or (a :: l)) ρ σ true := TC.or (ta.to ⟨rfl, rfl⟩)
noncomputable def a6l (x : D) (lo hi : Int) : Bool := match x with
  | .int i => decide (lo <= i) && decide (i <= hi)
  | _ => false
theorem b5a (H : HasR W) {x : D} {v : V} (hv : a0i [] v = some x) (lo hi : Int) (hx : isFn x = false) (h : isiB x "int" = false) : Spec W (k + 1) "is_among" [v, .d (.int lo), .d (.int hi)] (.bool false) :=
  Spec.intro H.is_among rfl (TS.cons (TS1.ret (TE.and ((TEq.isiT H.ok (cs := []) (tape := []) rfl trivial hv .int hx).to ⟨false, by erw [h], rfl⟩))))
theorem a9g (H : HasR W) {x : D} (lo hi : Int) (hx : isFn x = false) : Spec W (k + 1) "is_among" [.d x, .d (.int lo), .d (.int hi)] (.bool (a6l x lo hi)) := by
  cases x with
  | int i => exact a6h H i lo hi
  | bool b => exact Spec.intro H.is_among rfl (TS.cons (TS1.ret (TE.and ((TEq.isiT H.ok (cs := []) (tape := []) rfl trivial rfl .int rfl).to ⟨true, rfl, TE.and ((TEq.ev (tape := [.bool true]) (cs := [_]) rfl ⟨TEq.isiT (x := .bool b) (v := .d (.bool b)) H.ok (cs := []) (tape := []) rfl trivial rfl .bool rfl, trivial⟩).to ⟨false, rfl, rfl⟩)⟩))))
  | fn f => exact dTF hx
  | _ => exact b5a H rfl lo hi rfl rfl
end
end Mine
end
section
open PySem PyProof.Rows PySem.SeqAt
namespace Mine
section
variable {W : World0} {k : Nat} {A : Around} {s : Shared} {F : Addr -> Prop} {E : Value -> Shared -> Prop}
end
end Mine
end
section
open PySem PyProof.Rows PySem.SeqAt
namespace Mine
section
variable {W : World0} {k : Nat} {ρ : List (Option V)} {σ : List O} {Q : Out -> List (Option V) -> List O -> Prop} {ss : List CS}
theorem b6s : ∀ ds : List D, dsOf (ds.map V.d) = some ds
  | [] => rfl
  | x :: ds => by show bO (dsOf (ds.map V.d)) _ = _; erw [b6s ds]; rfl
noncomputable def TEqs (W : World0) (k : Nat) (es : List CE) (ρ : List (Option V)) (σ : List O) (ds : List D) : Prop := TEsv W k es ρ σ (ds.map V.d)
theorem TEqs.nil : TEqs W k [] ρ σ [] := ⟨rfl, rfl⟩
theorem TEqs.cons {e : CE} {es : List CE} {x : D} {ds : List D} (t : TEq W k e ρ σ x) (ts : TEqs W k es ρ σ ds) : TEqs W k (e :: es) ρ σ (x :: ds) := TEsv.cons t ts
theorem TEq.lstE {es : List CE} {ds : List D} (ts : TEqs W k es ρ σ ds) (hl : Nat.ble ds.length 100 = true) : TEq W k (.lst es) ρ σ (.lst ds) := TE.lst (TEsv.to ts ⟨ds, a8r (b6s ds), c8s hl, rfl, rfl⟩)
theorem TEq.addL {a b : CE} {l l' : List D} (ta : TEq W k a ρ σ (.lst l)) (tb : TEq W k b ρ σ (.lst l')) (hz : l.length + l'.length <= 16777216) : TEq W k (.bin .Add a b) ρ σ (.lst (l ++ l')) :=
  TE.bin (ta.to (tb.to ⟨_, .addL rfl rfl hz, rfl, rfl⟩))
theorem TEq.pow {a b : CE} {x n : Int} (ta : TEq W k a ρ σ (.int x)) (tb : TEq W k b ρ σ (.int n)) (h1 : 0 <= n) (h2 : (Builtin.Int.intBits x : Int) * n <= 2 ^ 27) : TEq W k (.bin .Pow a b) ρ σ (.int (x ^ n.toNat)) :=
  TE.bin (ta.to (tb.to ⟨_, .int rfl rfl rfl ⟨h1, h2⟩, rfl, rfl⟩))
theorem TEq.dct : TEq W k .dct0 ρ σ (.dI []) := fun names sc E he X hk hr hw Λ ad s S => by
  replace he := b5z he; obtain ⟨_, rfl, he⟩ := he
  refine wpAny_Dict_empty ?_
  have kk : Kept X.env.locals s { s with heap := s.heap.push (DO [] 0) } := a1t (t := s.toks)
  exact ⟨_, _, _, _, S.kept kk, .of_kept S kk, .d (.dI (a8j s.heap (DO [] 0) rfl) (fun h => a5y (S.usedF _ h)) .nil ⟨.nil, S.size_ne hw⟩), rfl, rfl⟩
end
end Mine
end
section
open PySem PyProof.Rows PySem.SeqAt
namespace Mine
section
variable {W : World0} {k : Nat} {ρ : List (Option V)} {σ : List O} {Q : Out -> List (Option V) -> List O -> Prop} {ss : List CS}
theorem TEq.v {i : Nat} {x : D} (h : ρ[i]? = some (some (.d x))) : TEq W k (.var i) ρ σ x := TE.var h ⟨rfl, rfl⟩
theorem TEq.i {n : Int} : TEq W k (.int n) ρ σ (.int n) := TE.int ⟨rfl, rfl⟩
theorem TS.asgE {i : Nat} {e : CE} {x : D} (t : TEq W k e ρ σ x) (h : TS W k ss (ρ.set i (some (.d x))) σ Q) (hn : a1v e = true := by rfl) : TS W k (.asg i e :: ss) ρ σ Q :=
  TS.cons (TS1.asg (t.to h) hn)
theorem TEq.mod {a b : CE} {x y : Int} (ta : TEq W k a ρ σ (.int x)) (tb : TEq W k b ρ σ (.int y)) (h : y ≠ 0) : TEq W k (.bin .Mod a b) ρ σ (.int (x.fmod y)) :=
  TE.bin (ta.to (tb.to ⟨_, .int rfl rfl rfl h, rfl, rfl⟩))
end
end Mine
end
section
open PySem PyProof.Rows PySem.SeqAt
namespace Mine
noncomputable def digs (s : Nat) : Nat -> Nat -> List Nat
  | 0, _ => []
  | j + 1, n => (n / s ^ j % s) :: digs s j n
noncomputable def a0o (s : Nat) (l : List Nat) : Nat := l.foldl (fun a x => a * s + x) 0
theorem a1g (s : Nat) : ∀ j n, (digs s j n).length = j
  | 0, _ => rfl
  | j + 1, n => congrArg Nat.succ (a1g s j n)
theorem b6t {s : Nat} : ∀ (j n a : Nat), (digs s j n).foldl (fun a x => a * s + x) a = a * s ^ j + n % s ^ j
  | 0, n, a => by erw [Nat.pow_zero, Nat.mod_one, Nat.mul_one]; rfl
  | j + 1, n, a => by
    show (digs s j n).foldl (fun a x => a * s + x) (a * s + n / s ^ j % s) = _
    erw [b6t j n, Nat.pow_succ, Nat.mod_mul, Nat.add_mul, Nat.mul_assoc, Nat.mul_comm s (s ^ j), Nat.add_assoc, Nat.mul_comm (n / s ^ j % s) (s ^ j), Nat.add_comm (s ^ j * _) (n % s ^ j)]
theorem a2s {s j n : Nat} (h : n < s ^ j) : a0o s (digs s j n) = n := by
  unfold a0o
  erw [b6t, Nat.zero_mul, Nat.zero_add, Nat.mod_eq_of_lt h]
theorem a6y {s : Nat} {l : List Nat} {j x : Nat} (h : l[j]? = some x) : a0o s (l.take (j + 1)) = a0o s (l.take j) * s + x := by
  unfold a0o
  erw [List.take_add_one, h, List.foldl_append]; rfl
theorem fdivQ (a b : Nat) : (a : Int).fdiv b = ((a / b : Nat) : Int) := Int.ofNat_fdiv a b ▸ rfl
section
variable {W : World0} {k : Nat} {ρ : List (Option V)} {σ : List O} {Q : Out -> List (Option V) -> List O -> Prop} {ss : List CS}
theorem TS.insV {i j : Nat} {e : CE} {x : D} {l : List D} {tape : List D} {cs : List Prop} (hx : ρ[i]? = some (some (.r j))) (hl : σ[j]? = some (.lst l)) (hz : l.length <= 16777216) (h : pv W k σ ρ e [] tape = some (.d x, cs, [])) (hc : AllP cs) (t : TS W k ss ρ (σ.set j (.lst (x :: l))) Q) : TS W k (.ex (.meth (.var i) "insert" [.int 0, e]) :: ss) ρ σ Q :=
  TS.cons (TS1.ex (TE.insert hx ⟨l, hl⟩ (TE.int ⟨rfl, TE.ev h hc ⟨x, l, rfl, hl, hz, t⟩⟩)))
theorem c1e {s : Nat} (h0 : 0 < s) (hs : s <= 1000) : (s : Int) ≠ 0 /\ (s : Int).natAbs < 1073741824 := ⟨a2m h0, by erw [Int.natAbs_natCast]; exact Nat.lt_of_le_of_lt hs (by decide)⟩
theorem a9h (h : HasF W "number_of" F_number_of) {s : Nat} (hs : s <= 1000) {v : V} {c : Bool} {l : List Nat} (hv : seqV [] v = some (c, (a0a l).map V.d)) (hn : notLive v = true) (hl : l.length <= 1000) : Spec W (k + 1) "number_of" [.d (.int s), v] (.int (a0o s l)) :=
  Spec.intro h rfl (TS.asgV (tape := []) (cs := []) rfl trivial (TS.forS (tape := []) (cs := []) rfl trivial hv hn (by erw [List.length_map, a0b]; exact a1k hl)
    (fun n ρ σ => ∃ x, ρ = [some (.d (.int s)), some v, some (.d (.int (a0o s (l.take n)))), x] /\ σ = []) ⟨none, rfl, rfl⟩
    (fun j x _ _ hx ⟨y, h1, h2⟩ => by
      subst h1 h2
      rw [List.getElem?_map] at hx
      obtain ⟨z, hz, rfl⟩ := Option.map_eq_some_iff.mp hx
      unfold a0a at hz
      rw [List.getElem?_map] at hz
      obtain ⟨a, ha, rfl⟩ := Option.map_eq_some_iff.mp hz
      refine TS.asgV (tape := []) rfl ⟨.inr (lt64 hs), trivial⟩ (TS.nil ⟨some (.d (.int a)), ?_, rfl⟩)
      erw [a6y ha]
      rfl)
    (fun _ _ ⟨x, h1, h2⟩ => by
      subst h1 h2
      refine TS.retV (tape := []) (cs := []) rfl trivial ?_
      erw [List.length_map, a0b, List.take_length]; rfl)))
theorem b1e {f : String} (hW : WOk W) (h : HasF W f F_cells_of) {s w n : Nat} (h0 : 0 < s) (hs : s <= 1000) (hw : w <= 1000) : Spec W (k + 1) f [.d (.int s), .d (.int w), .d (.int n)] (.lst (a0a (digs s w n))) :=
  Spec.intro h rfl (TS.asgL (tape := []) (cs := []) (l := []) rfl trivial rfl (by decide) (TS.forR hW (tape := []) (cs := []) rfl trivial (a1k hw)
    (fun j ρ σ => ∃ x, ρ = [some (.d (.int s)), some (.d (.int w)), some (.d (.int ((n / s ^ j : Nat) : Int))), some (.r 0), x] /\ σ = [.lst (a0a (digs s j n))]) ⟨none, by erw [Nat.pow_zero, Nat.div_one]; rfl, rfl⟩
    (fun j _ _ hj ⟨y, h1, h2⟩ => by
      subst h1 h2
      refine TS.insV (tape := []) rfl rfl (by erw [a0b, a1g]; exact a1k (Nat.le_trans (Nat.le_of_lt hj) hw)) rfl ⟨a2m h0, trivial⟩ (TS.asgV (tape := []) rfl ⟨c1e h0 hs, trivial⟩ (TS.nil ⟨some (.d (.int j)), ?_, ?_⟩))
      . erw [fdivQ, Nat.div_div_eq_div_mul, ← Nat.pow_succ]; rfl
      . erw [a3u]; rfl)
    (fun _ _ ⟨x, h1, h2⟩ => by
      subst h1 h2
      exact TS.retV (tape := []) (cs := []) rfl trivial rfl)))
end
end Mine
end
section
open PySem PyProof.Rows
namespace Mine
noncomputable def onL (s w : Nat) (t l : List Nat) : List Nat := (List.range (l.length + 1 - w)).map fun j => t.getD (a0o s ((l.drop j).take w)) 0
theorem c1f {s w : Nat} {t l : List Nat} : (onL s w t l).length = l.length + 1 - w := by unfold onL; erw [List.length_map, List.length_range]
theorem a6z {s : Nat} : ∀ (l : List Nat) (a : Nat), l.foldl (fun a x => a * s + x) a = a * s ^ l.length + a0o s l
  | [], a => by unfold a0o; erw [List.length_nil, Nat.pow_zero, Nat.mul_one]; rfl
  | x :: l, a => by
    have h1 := a6z (s := s) l (a * s + x)
    have h2 := a6z (s := s) l (0 * s + x)
    have e : a0o s (x :: l) = l.foldl (fun a x => a * s + x) (0 * s + x) := rfl
    erw [e, h2, List.foldl_cons, h1, List.length_cons, Nat.pow_succ, Nat.zero_mul, Nat.zero_add, Nat.add_mul, Nat.mul_assoc, Nat.mul_comm s (s ^ l.length), Nat.add_assoc]
theorem a2t {s x : Nat} {l : List Nat} : a0o s (x :: l) = x * s ^ l.length + a0o s l := by
  have e : a0o s (x :: l) = l.foldl (fun a x => a * s + x) (0 * s + x) := rfl
  erw [e, a6z, Nat.zero_mul, Nat.zero_add]
theorem a2q {s : Nat} : ∀ {l : List Nat}, (∀ x ∈ l, x < s) -> a0o s l < s ^ l.length
  | [], _ => by show 0 < s ^ 0; erw [Nat.pow_zero]; decide
  | x :: l, h => by
    erw [a2t, List.length_cons, Nat.pow_succ]
    have h1 := a2q (l := l) fun y hy => h y (.tail _ hy)
    have h2 : (x + 1) * s ^ l.length <= s * s ^ l.length := Nat.mul_le_mul_right _ (h x (.head _))
    rw [Nat.add_mul, Nat.one_mul] at h2
    erw [Nat.mul_comm (s ^ l.length) s]
    exact om68 h2 h1
theorem b6u {s : Nat} (hs : 0 < s) : ∀ (j n a : Nat), digs s j (n + a * s ^ j) = digs s j n
  | 0, _, _ => rfl
  | j + 1, n, a => by
    have hp : 0 < s ^ j := Nat.pow_pos hs
    have e : n + a * s ^ (j + 1) = n + (a * s) * s ^ j := by erw [Nat.pow_succ, Nat.mul_assoc, Nat.mul_comm s (s ^ j)]
    show ((n + a * s ^ (j + 1)) / s ^ j % s) :: digs s j (n + a * s ^ (j + 1)) = _
    erw [e, b6u hs j n (a * s), Nat.add_mul_div_right _ _ hp, Nat.add_mul_mod_self_right]
    rfl
theorem b6v {s : Nat} (hs : 0 < s) : ∀ {l : List Nat}, (∀ x ∈ l, x < s) -> digs s l.length (a0o s l) = l
  | [], _ => rfl
  | x :: l, h => by
    have hp : 0 < s ^ l.length := Nat.pow_pos hs
    have h1 := a2q (l := l) fun y hy => h y (.tail _ hy)
    have ih := b6v hs (l := l) fun y hy => h y (.tail _ hy)
    erw [a2t, List.length_cons]
    show ((x * s ^ l.length + a0o s l) / s ^ l.length % s) :: digs s l.length (x * s ^ l.length + a0o s l) = x :: l
    erw [Nat.add_comm, b6u hs, ih, Nat.add_mul_div_right _ _ hp, Nat.div_eq_of_lt h1, Nat.zero_add, Nat.mod_eq_of_lt (h x (.head _))]
theorem a3i {s : Nat} (hs : 0 < s) : ∀ (j n : Nat), ∀ x ∈ digs s j n, x < s
  | 0, _, _, h => absurd h List.not_mem_nil
  | j + 1, n, x, h => by
    cases h with
    | head => exact Nat.mod_lt _ hs
    | tail _ h => exact a3i hs j n x h
theorem b5b {s w : Nat} {t l : List Nat} (R : OkR s w t) (hl : l.length = w) (h : ∀ x ∈ l, x < s) : t[a0o s l]? = some (t.getD (a0o s l) 0) /\ t.getD (a0o s l) 0 < s := by
  have h1 : a0o s l < t.length := by erw [R.len, ← hl]; exact a2q h
  erw [List.getD_eq_getElem?_getD, List.getElem?_eq_getElem h1]
  exact ⟨rfl, R.sign _ (List.getElem_mem _)⟩
theorem b5c {l : List Nat} {w j : Nat} (hj : j < l.length + 1 - w) : ((l.drop j).take w).length = w := by
  erw [List.length_take, List.length_drop]; exact om69 hj
theorem c1g {s : Nat} {l : List Nat} {w j : Nat} (h : ∀ x ∈ l, x < s) : ∀ x ∈ (l.drop j).take w, x < s := fun x hx => h x (List.mem_of_mem_drop (List.mem_of_mem_take hx))
theorem c6r {s w : Nat} {t l : List Nat} (R : OkR s w t) (h : ∀ x ∈ l, x < s) : ∀ x ∈ onL s w t l, x < s := fun x hx => by
  obtain ⟨j, hj, rfl⟩ := List.mem_map.mp hx
  exact (b5b R (b5c (List.mem_range.mp hj)) (c1g h)).2
end Mine
end
section
open PySem PyProof.Rows PySem.SeqAt
namespace Mine
inductive ArgLes : List V -> List V -> Prop
  | nil : ArgLes [] []
  | same {v : V} {l l' : List V} : ArgLes l l' -> ArgLes (v :: l) (v :: l')
  | own {x : D} {l l' : List V} : ArgLes l l' -> ArgLes (.a x :: l) (.d x :: l')
theorem ArgLes.rel {gl : Str -> Option Value} {h : Heap} {Φ : Addr -> Prop} {l l' : List V} (a : ArgLes l l') : ∀ {vs : List Value}, VRels gl h noL Φ [] vs l' -> VRels gl h noL Φ [] vs l := by
  induction a with
  | nil => exact fun r => r
  | same _ ih => intro vs r; cases r with | cons r1 r2 => exact .cons r1 (ih r2)
  | own _ ih => intro vs r; cases r with | cons r1 r2 => exact .cons (.a (r1.dInv.keep (.weak fun ζ h => .inl h))) (ih r2)
theorem c1h {l : List Nat} {j w : Nat} : ((a0a l).drop j).take w = a0a ((l.drop j).take w) := by unfold a0a; erw [List.map_take, List.map_drop]
theorem b0c {α : Type} (f : α -> Nat) (l : List α) : a0a (l.map f) = l.map fun x => D.int ((f x : Nat) : Int) := by unfold a0a; erw [List.map_map]; rfl
theorem a5b {σ : List O} (l : List Nat) : seqV σ (.a (.lst (a0a l))) = some (true, (a0a l).map V.d) := by erw [← b7r]; rfl
theorem c4z {σ : List O} (l : List Nat) : lstV σ (.a (.lst (a0a l))) = some (a0a l) := if_pos (a2y l)
theorem a0s {l : List Nat} (h : l.length <= 1000) : (a0a l).length <= 16777216 := by erw [a0b]; exact a1k h
section
variable {W : World0} {k : Nat}
theorem Spec.own {f : String} {args args' : List V} {r : D} (s : Spec W k f args r) (h : ArgLes args args') : Spec W k f args' r := by
  obtain ⟨cf, hf, F⟩ := s
  exact ⟨cf, hf, fun A s vs Φ hr hw hΦ rel a ha => F A s vs Φ hr hw hΦ (h.rel rel) a ha⟩
structure HasB (W : World0) : Prop where
  R : HasR W
  number_of : HasF W "number_of" F_number_of
  is_piece : HasF W "is_piece" F_is_piece
  need_piece : HasF W "need_piece" F_need_piece
  sign_of : HasF W "sign_of" F_sign_of
  piece_on : HasF W "piece_on" F_piece_on
  lpiece : HasF W "_law_piece" b8k
variable {s w : Nat} {t l : List Nat}
theorem b3f (H : HasB W) (R : OkR s w t) {x : Nat} (hl : l.length <= 1000) (hx : t[a0o s l]? = some x) : Spec W (k + 2) "sign_of" [.d (a0k s w t), .a (.lst (a0a l))] (.int x) :=
  Spec.intro H.sign_of rfl (TS.retV (tape := [.int (a0o s l), .int x]) rfl ⟨a0n (n := a0o s l) rfl R.len16 (a2l hx), a9h H.number_of R.s1000 (a5b l) rfl hl, trivial⟩ rfl)
theorem b1f (H : HasB W) (R : OkR s w t) (hl : l.length <= 1000) (hs : ∀ x ∈ l, x < s) : Spec W (k + 4) "is_piece" [.d (a0k s w t), .a (.lst (a0a l))] (.bool true) :=
  Spec.intro H.is_piece rfl (TS.exV (tape := [.none]) rfl ⟨a1b H.R R, trivial⟩ (TS.retV (tape := [.bool true, .bool true]) rfl ⟨b2s (k := k + 2) (cs := []) H.R rfl trivial (a5b l) rfl (a0s hl) (fun x hx => by
      obtain ⟨a, ha, rfl⟩ := List.mem_map.mp hx
      exact TEq.ev (tape := [.bool true]) rfl ⟨a2p H.R (Int.natCast_nonneg a) (c0g (hs a ha)), trivial⟩), TEq.isi H.R.ok rfl trivial rfl (.lst _), trivial⟩ rfl))
theorem a1w (H : HasB W) (R : OkR s w t) {m : Nat} (hl : l.length <= 1000) (hs : ∀ x ∈ l, x < s) (hm : m <= l.length) : Spec W (k + 5) "need_piece" [.d (a0k s w t), .a (.lst (a0a l)), .d (.int m)] .none :=
  Spec.intro H.need_piece rfl (TS.ifF (tape := [.bool true, .int ((a0a l).length : Int)]) rfl ⟨TEq.len H.R.ok (tape := []) (cs := []) rfl trivial rfl rfl (a0s hl), b1f H R hl hs, trivial⟩
    (show (!true || decide (((a0a l).length : Int) < (m : Int))) = false by erw [a0b, decide_eq_false (Int.not_lt.mpr (Int.ofNat_le.mpr hm))]; rfl) (TS.nil rfl))
theorem b6w {ρ : List (Option V)} {σ : List O} {i j2 : Nat} {e : CE} {j : Nat} {tape : List D} {cs : List Prop} (h1 : ρ[i]? = some (some (.a (.lst (a0a l))))) (h2 : ρ[j2]? = some (some (.d (.int (j : Int))))) (h3 : pv W k σ ρ e [] tape = some (.d (.int ((j + w : Nat) : Int)), cs, [])) (hc : AllP cs) (hl : l.length <= 1000) (hj : j < l.length + 1 - w) :
    TEq W k (.slice (.var i) (some (.var j2)) (some e)) ρ σ (.lst (a0a ((l.drop j).take w))) := by
  have e2 : ((a0a l).drop j).take (j + w - j) = a0a ((l.drop j).take w) := by erw [Nat.add_sub_cancel_left]; exact c1h
  erw [← e2]
  exact TE.slice (TE.var h1 (TE.var h2 ⟨_, rfl, TE.ev h3 hc ⟨_, rfl, a0a l, c4z l, a0s hl, by rw [a8u _ (Nat.le_add_right _ _) (by rw [a0b]; exact om70 hj)], rfl⟩⟩))
theorem c1i (hl : l.length <= 1000) {j : Nat} : ((l.drop j).take w).length <= 1000 := Nat.le_trans (by rw [List.length_take]; exact Nat.min_le_right _ _) (Nat.le_trans (by erw [List.length_drop]; exact Nat.sub_le _ _) hl)
theorem b1g (H : HasB W) (R : OkR s w t) (hl : l.length <= 1000) (hs : ∀ x ∈ l, x < s) (hw : w - 1 <= l.length) : Spec W (k + 6) "piece_on" [.d (a0k s w t), .a (.lst (a0a l))] (.lst (a0a (onL s w t l))) := by
  have e : ((a0a l).length : Int) - (w : Int) + 1 = ((l.length + 1 - w : Nat) : Int) := by erw [a0b]; have := R.w1; exact om71 hw
  refine Spec.intro H.piece_on rfl (TS.exV (tape := [.none]) rfl ⟨a1b H.R R, trivial⟩ (TS.exV (tape := [.none]) rfl ⟨a6i R.w1 ▸ a1w H R hl hs hw, trivial⟩ (TS.retV (tape := [.lst (a0a (onL s w t l))]) rfl ⟨?_, trivial⟩ rfl)))
  unfold onL
  erw [b0c]
  refine TEq.compR H.R.ok (tape := [.int ((a0a l).length : Int)]) (cs := [_]) _ (by rw [← e]; rfl) ⟨TEq.len H.R.ok (tape := []) (cs := []) rfl trivial rfl rfl (a0s hl), trivial⟩ (a1k (by have := R.w1; exact om72 this hl)) fun j hj => ?_
  exact TEq.ev (tape := [.lst (a0a ((l.drop j).take w)), .int _]) rfl ⟨(b3f H R (c1i hl) (b5b R (b5c hj) (c1g hs)).1).own (.same (.own .nil)), b6w rfl rfl (tape := []) (cs := []) rfl trivial hl hj, trivial⟩
theorem a3j (H : HasB W) (L : HasL W) (R : OkR s w t) (z : Int) {n : Nat} (hn : n <= 1000) : ESpec W (k + 2) "_law_piece" [.d (a0k s w t), .d (.int z), .d (.int n)] fun r => ∃ l : List Nat, l.length = n /\ (∀ x ∈ l, x < s) /\ r = .lst (a0a l) := by
  have hs : 0 < s := Nat.lt_of_lt_of_le (by decide) R.s2
  obtain ⟨l, l1, l2, l3⟩ := c0l (s := s) (rows := n) (f := fun j => ((mixZ z j).fdiv 3).fmod s) fun j ζ => ⟨fm0 _ hs, fm1 _ hs⟩
  refine ⟨_, ⟨l, l1, l2, rfl⟩, Spec.intro H.lpiece rfl (TS.retV (tape := [.lst (a0a l)]) rfl ⟨?_, trivial⟩ rfl)⟩
  erw [← c0m l3]
  exact TEq.compR L.ok (tape := []) (cs := []) _ rfl trivial (a1k hn) fun j hj => TEq.ev (tape := [.int (mixZ z j)]) rfl ⟨a2m hs, ⟨by decide, by decide⟩, a3n L z (Nat.le_trans (Nat.le_of_lt hj) hn), trivial⟩
end
end Mine
end
section
open PySem PyProof.Rows PySem.SeqAt
namespace Mine
noncomputable def crow (s N : Nat) (t : List Nat) (told : Nat) (c : List Nat) (e : Nat) (l : List Nat) : Nat -> List Nat
  | 0 => l
  | a + 1 => if t[e * s + a]? = some told then (crow s N t told c e l a).set ((e * s + a) % N) ((crow s N t told c e l a).getD ((e * s + a) % N) 0 + c.getD e 0) else crow s N t told c e l a
noncomputable def ccol (s N : Nat) (t : List Nat) (told : Nat) (c : List Nat) : Nat -> List Nat
  | 0 => List.replicate N 0
  | e + 1 => crow s N t told c e (ccol s N t told c e) s
noncomputable def cvec (s N : Nat) (t : List Nat) (word : List Nat) : List Nat := word.foldl (fun c told => ccol s N t told c N) (List.replicate N 1)
theorem a5c {s N : Nat} {t c l : List Nat} {told e : Nat} : ∀ a, (crow s N t told c e l a).length = l.length
  | 0 => rfl
  | a + 1 => by
    unfold crow
    split
    . erw [List.length_set, a5c a]
    . exact a5c a
theorem a6m {s N : Nat} {t c : List Nat} {told : Nat} : ∀ e, (ccol s N t told c e).length = N
  | 0 => List.length_replicate
  | e + 1 => by unfold ccol; erw [a5c, a6m e]
theorem a8y {s N : Nat} {t word : List Nat} {a : Nat} : cvec s N t (word ++ [a]) = ccol s N t a (cvec s N t word) N := by unfold cvec; erw [List.foldl_append]; rfl
theorem b6x {s N : Nat} {t word : List Nat} : (cvec s N t word).length = N := by
  rcases List.eq_nil_or_concat word with h | ⟨m, x, h⟩
  . erw [h]; exact List.length_replicate
  . erw [h, List.concat_eq_append, a8y]; exact a6m N
theorem c5a (l : List Nat) (i x : Nat) : a0a (l.set i x) = (a0a l).set i (.int (x : Int)) := by unfold a0a; erw [List.map_set]
theorem b6y {l : List Nat} {i : Nat} (h : i < l.length) : (a0a l)[i]? = some (.int ((l.getD i 0 : Nat) : Int)) := a2l (by erw [List.getD_eq_getElem?_getD, List.getElem?_eq_getElem h]; rfl)
theorem b1h (n : Nat) (x : Nat) : (List.replicate n [D.int (x : Int)]).flatten = a0a (List.replicate n x) := by
  induction n with
  | zero => rfl
  | succ n ih => erw [List.replicate_succ, List.flatten_cons, ih, List.replicate_succ]; rfl
theorem b6z : ∀ l : List Nat, (l.map fun (x : Nat) => (x : Int)).sum = ((l.sum : Nat) : Int)
  | [] => rfl
  | a :: l => by erw [List.map_cons, List.sum_cons, b6z l, List.sum_cons]; rfl
set_option tactic.hygienic true in
theorem b7a {l : List Nat} {i x j : Nat} (hi : i < l.length) : (l.set i x).getD j 0 = if i = j then x else l.getD j 0 := by
  erw [List.getD_eq_getElem?_getD, List.getD_eq_getElem?_getD]
  split
  . rename_i h; subst h; erw [List.getElem?_set_self hi]; rfl
  . rename_i h; erw [List.getElem?_set_ne h]
set_option tactic.hygienic true in
theorem b7b {s N : Nat} {t c l : List Nat} {told e : Nat} (hN : 0 < N) (hl : l.length = N) (n : Nat) : ∀ k, 0 < (crow s N t told c e l k).getD n 0 ↔ 0 < l.getD n 0 ∨ (0 < c.getD e 0 /\ ∃ a, a < k /\ t[e * s + a]? = some told /\ (e * s + a) % N = n)
  | 0 => ⟨.inl, fun h => h.elim id fun ⟨_, a, h, _⟩ => absurd h (Nat.not_lt_zero _)⟩
  | k + 1 => by
    have ih := b7b (s := s) (t := t) (c := c) (told := told) (e := e) hN hl n k
    unfold crow
    split
    . rename_i ht
      rw [b7a (by rw [a5c, hl]; exact Nat.mod_lt _ hN)]
      split
      . rename_i hn
        erw [hn]
        constructor
        . intro h
          by_cases hc : 0 < c.getD e 0
          . exact .inr ⟨hc, k, Nat.lt_succ_self _, ht, hn⟩
          . rcases ih.mp (om73 h hc) with h | ⟨h, _⟩
            . exact .inl h
            . exact absurd h hc
        . rintro (h | ⟨h, _⟩)
          . have := ih.mpr (.inl h); exact om74 this
          . omega
      . rename_i hn
        rw [ih]
        constructor
        . rintro (h | ⟨h, a, ha, h1, h2⟩)
          . exact .inl h
          . exact .inr ⟨h, a, Nat.lt_succ_of_lt ha, h1, h2⟩
        . rintro (h | ⟨h, a, ha, h1, h2⟩)
          . exact .inl h
          . refine .inr ⟨h, a, ?_, h1, h2⟩
            rcases Nat.lt_succ_iff_lt_or_eq.mp ha with h | rfl
            . exact h
            . exact absurd h2 hn
    . rename_i ht
      rw [ih]
      constructor
      . rintro (h | ⟨h, a, ha, h1, h2⟩)
        . exact .inl h
        . exact .inr ⟨h, a, Nat.lt_succ_of_lt ha, h1, h2⟩
      . rintro (h | ⟨h, a, ha, h1, h2⟩)
        . exact .inl h
        . refine .inr ⟨h, a, ?_, h1, h2⟩
          rcases Nat.lt_succ_iff_lt_or_eq.mp ha with h | rfl
          . exact h
          . exact absurd h1 ht
theorem b7c {s N : Nat} {t c : List Nat} {told : Nat} (hN : 0 < N) (n : Nat) : ∀ k, 0 < (ccol s N t told c k).getD n 0 ↔ ∃ e, e < k /\ 0 < c.getD e 0 /\ ∃ a, a < s /\ t[e * s + a]? = some told /\ (e * s + a) % N = n
  | 0 => by
    unfold ccol
    constructor
    . intro h
      rw [List.getD_eq_getElem?_getD, List.getElem?_replicate] at h
      split at h <;> exact absurd h (Nat.lt_irrefl _)
    . rintro ⟨e, h, _⟩; exact absurd h (Nat.not_lt_zero _)
  | k + 1 => by
    unfold ccol
    rw [b7b hN (a6m k), b7c hN n k]
    constructor
    . rintro (⟨e, h, r⟩ | ⟨h, r⟩)
      . exact ⟨e, Nat.lt_succ_of_lt h, r⟩
      . exact ⟨k, Nat.lt_succ_self _, h, r⟩
    . rintro ⟨e, h, r⟩
      rcases Nat.lt_succ_iff_lt_or_eq.mp h with h | rfl
      . exact .inl ⟨e, h, r⟩
      . exact .inr r
theorem a3p {s N : Nat} {t word : List Nat} {a : Nat} : reach s N t (word ++ [a]) = a1n s N t (reach s N t word) a := by unfold reach; erw [List.foldl_append]; rfl
theorem a6n {s N : Nat} {t word : List Nat} : ∀ e ∈ reach s N t word, e < N := by
  rcases List.eq_nil_or_concat word with h | ⟨m, x, h⟩
  . erw [h]; exact fun e he => List.mem_range.mp he
  . erw [h, List.concat_eq_append, a3p]; exact fun e he => c0i he
set_option tactic.hygienic true in
theorem a7a {s N : Nat} {t : List Nat} (hN : 0 < N) : ∀ (m : Nat) (word : List Nat), word.length = m -> ∀ n, 0 < (cvec s N t word).getD n 0 ↔ n ∈ reach s N t word
  | 0, word, h, n => by
    erw [List.length_eq_zero_iff.mp h]
    show 0 < (List.replicate N 1).getD n 0 ↔ n ∈ List.range N
    erw [List.mem_range, List.getD_eq_getElem?_getD, List.getElem?_replicate]
    split
    . rename_i h; exact ⟨fun ζ => h, fun ζ => Nat.zero_lt_one⟩
    . rename_i h; exact ⟨fun h' => absurd h' (Nat.lt_irrefl _), fun h' => absurd h' h⟩
  | m + 1, word, h, n => by
    rcases List.eq_nil_or_concat word with h' | ⟨v, x, h'⟩
    . rw [h'] at h; cases h
    . rw [List.concat_eq_append] at h'
      subst h'
      rw [List.length_append] at h
      have ih := a7a (s := s) (t := t) hN m v (Nat.succ.inj h)
      erw [a8y, a3p, b7c hN, a2e hN]
      constructor
      . rintro ⟨e, he, hc, r⟩; exact ⟨e, (ih e).mp hc, r⟩
      . rintro ⟨e, he, r⟩; exact ⟨e, a6n e he, (ih e).mpr he, r⟩
theorem sum_pos : ∀ {l : List Nat}, 0 < l.sum ↔ ∃ n, 0 < l.getD n 0
  | [] => ⟨fun h => absurd h (Nat.lt_irrefl _), fun ⟨n, h⟩ => by rw [List.getD_eq_getElem?_getD] at h; exact absurd h (Nat.lt_irrefl _)⟩
  | a :: l => by
    rw [List.sum_cons]
    constructor
    . intro h
      by_cases ha : 0 < a
      . exact ⟨0, ha⟩
      . obtain ⟨n, hn⟩ := sum_pos.mp (show 0 < l.sum by exact om75 h ha)
        exact ⟨n + 1, hn⟩
    . rintro ⟨n, hn⟩
      cases n with
      | zero => exact Nat.lt_of_lt_of_le hn (Nat.le_add_right _ _)
      | succ n => exact Nat.lt_of_lt_of_le (sum_pos.mpr ⟨n, hn⟩) (Nat.le_add_left _ _)
theorem c1j {s N : Nat} {t word : List Nat} (hN : 0 < N) : 0 < (cvec s N t word).sum ↔ reach s N t word ≠ [] := by
  rw [sum_pos]
  constructor
  . rintro ⟨n, h⟩ e
    have := (a7a hN _ word rfl n).mp h
    rw [e] at this; cases this
  . intro h
    obtain ⟨n, hn⟩ := List.exists_mem_of_ne_nil _ h
    exact ⟨n, (a7a hN _ word rfl n).mpr hn⟩
end Mine
end
section
open PySem PyProof.Rows PySem.SeqAt
namespace Mine
section
variable {W : World0} {k : Nat} {ρ : List (Option V)} {σ : List O}
set_option tactic.hygienic true in
theorem TE.mulR {a b : CE} {Q : V -> List O -> Prop} (t : TE W k a ρ σ fun va σ₁ => TE W k b ρ σ₁ fun vb σ₂ => ∃ (l : List D) (n : Int), lstV σ₂ va = some l /\ a0i σ₂ vb = some (.int n) /\ nolists l = true /\ n < 2 ^ 63 /\ -(2 ^ 63) <= n /\ l.length * n.toNat <= 16777216 /\ Q (.r σ₂.length) (σ₂ ++ [.lst (List.replicate n.toNat l).flatten])) : TE W k (.bin .Mult a b) ρ σ Q :=
  fun names sc E he X hk hr hw Λ ad s S => by
    replace he := b8w he; obtain ⟨l, o, r, pos, rfl, he⟩ := he
    . skip
      simp only [Bool.and_eq_true, beq_iff_eq] at he
      obtain ⟨⟨rfl, ha⟩, hb⟩ := he
      refine wpAny_BinOp (TE.two (F := binaryOp .Mult) (t.mono fun va σ₁ t₁ => t₁.mono fun vb σ₂ h => ?_) ha hb hk hr hw S)
      refine b8e h fun l n e1 e2 hn n1 n2 n3 q => ?_
      intro names X Λ ad s x y hr hw S rx ry
      obtain ⟨b, vs, m, rfl, h1, r1⟩ := a4e S rx e1
      have d2 := a0r S ry e2
      cases d2
      refine a5j (W := W) (A := X.A) (F := used s) (fun ζ h => h) h1 (r1.nolists hn) n1 n2 n3 X.env.locals S.ns _ _ fun v s' kk dr => ?_
      cases dr with
      | lst g1 g2 g3 =>
        rename_i z ws m'
        have hz : s.heap.get? z = Option.none := by
          cases e : s.heap.get? z with
          | none => rfl
          | some o => exact absurd ⟨o, e⟩ g2
        have hnl : nolists (List.replicate n.toNat l).flatten = true := by
          have app : ∀ a b : List D, nolists a = true -> nolists b = true -> nolists (a ++ b) = true := by
            intro a b ha hb
            induction a with
            | nil => exact hb
            | cons x xs ih =>
              simp only [nolists, Bool.and_eq_true, List.cons_append] at ha ⊢
              exact ⟨ha.1, ih ha.2⟩
          induction n.toNat with
          | zero => rfl
          | succ m ih => erw [List.replicate_succ, List.flatten_cons]; exact app _ _ hn ih
        obtain ⟨S₂, P₂⟩ := S.live kk hz (o := .lst (List.replicate n.toNat l).flatten) (by intro h; cases h) (fun Λ' ad' K pre => ⟨ws, m', g1, g3.nolists hnl⟩) ⟨_, g1⟩
        exact ⟨_, _, _, _, S₂, P₂, .r (by erw [← S.len]; simp), q⟩
structure HasO (W : World0) : Prop where
  G : HasG W
  B : HasB W
  ends_of : HasF W "ends_of" F_ends_of
  count_of : HasF W "count_of" F_count_of
  leads : HasF W "leads" F_leads
  cells_of : HasF W "cells_of" F_cells_of
  origin_of : HasF W "origin_of" F_origin_of
variable {s w : Nat} {t l : List Nat}
theorem b0d {N j a : Nat} (h : l[j]? = some a) : reach s N t (l.take (j + 1)) = a1n s N t (reach s N t (l.take j)) a := by erw [List.take_add_one, h]; exact a3p
theorem c1k {N j a : Nat} (h : l[j]? = some a) : cvec s N t (l.take (j + 1)) = ccol s N t a (cvec s N t (l.take j)) N := by erw [List.take_add_one, h]; exact a8y
theorem b7y {α : Type} (p : α -> Bool) (l : List α) : (l.filter p).length <= l.length := List.length_filter_le p l
theorem a4p {N : Nat} : (reach s N t l).length <= N := by
  rcases List.eq_nil_or_concat l with h | ⟨m, x, h⟩
  . erw [h]; show (List.range N).length <= N; erw [List.length_range]; exact Nat.le_refl _
  . erw [h, List.concat_eq_append, a3p]
    exact Nat.le_trans (b7y _ _) (by erw [List.length_range]; exact Nat.le_refl _)
theorem a7i (H : HasO W) (R : OkR s w t) (hl : l.length <= 1000) (hs : ∀ x ∈ l, x < s) : Spec W (k + 6) "ends_of" [.d (a0k s w t), .a (.lst (a0a l))] (.tup (a0a (reach s (s ^ (w - 1)) t l))) := by
  have hN8 := R.n8
  refine Spec.intro H.ends_of rfl (TS.exV (tape := [.none]) rfl ⟨a1b H.B.R R, trivial⟩ (TS.exV (tape := [.none]) rfl ⟨a1w H.B R hl hs (m := 0) (Nat.zero_le _), trivial⟩
    (TS.asgV (tape := [.tup (a0a (List.range (s ^ (w - 1))))]) rfl ⟨TEq.tupRange H.B.R.ok (tape := [.int ((s ^ (w - 1) : Nat) : Int)]) (cs := [_]) rfl ⟨a1m H.G.S R, trivial⟩ (c0p (Nat.le_trans hN8 (by decide))), trivial⟩
    (TS.forS (tape := []) (cs := []) rfl trivial (a5b l) rfl (by erw [List.length_map]; exact a0s hl)
      (fun n ρ σ => ∃ x, ρ = [some (.d (a0k s w t)), some (.a (.lst (a0a l))), some (.d (.tup (a0a (reach s (s ^ (w - 1)) t (l.take n))))), x] /\ σ = []) ⟨none, rfl, rfl⟩
      (fun n x _ _ hx ⟨y, e1, e2⟩ => by
        subst e1 e2
        obtain ⟨a, ha, rfl⟩ := a3e hx
        refine TS.asgV (tape := [.tup (a0a (reach s (s ^ (w - 1)) t (l.take (n + 1))))]) rfl ⟨by erw [b0d ha]; exact a7p H.G R a6n (Nat.le_trans a4p (Nat.le_trans hN8 (by decide))), trivial⟩ (TS.nil ⟨_, rfl, rfl⟩))
      (fun _ _ ⟨y, e1, e2⟩ => by
        subst e1 e2
        erw [List.length_map, a0b, List.take_length]
        exact TS.retV (tape := []) (cs := []) rfl trivial rfl)))))
theorem a6o {n : Nat} {l : List D} : (List.replicate n O.dead ++ [O.lst l])[n]? = some (.lst l) := by erw [List.getElem?_append_right (by rw [List.length_replicate]; exact Nat.le_refl _), List.length_replicate, Nat.sub_self]; rfl
theorem b7d {n : Nat} {l l' : List D} : (List.replicate n O.dead ++ [O.lst l]).set n (.lst l') = List.replicate n O.dead ++ [.lst l'] := by
  erw [List.set_append_right (h := by rw [List.length_replicate]; exact Nat.le_refl _), List.length_replicate, Nat.sub_self]; rfl
theorem seq_r {n : Nat} {l : List D} (e : σ[n]? = some (.lst l)) : seqV σ (.r n) = some (true, l.map V.d) := by
  show (match σ[n]? with | some (.lst l) => some (true, l.map V.d) | some (.lstV l) => some (true, l) | _ => none) = _
  erw [e]
theorem a6p (H : HasO W) (R : OkR s w t) (hl : l.length <= 1000) (hs : ∀ x ∈ l, x < s) : Spec W (k + 6) "count_of" [.d (a0k s w t), .a (.lst (a0a l))] (.int ((cvec s (s ^ (w - 1)) t l).sum : Nat)) := by
  have hN := R.pos
  have hN8 := R.n8
  have many : Spec W (k + 5) "many_ends" [.d (a0k s w t)] (.int ((s ^ (w - 1) : Nat) : Int)) := a1m H.G.S R
  have hlen := R.len
  rw [R.eq] at hlen
  have onw : ∀ e a : Nat, Spec W (k + 5) "onward" [.d (a0k s w t), .d (.int (e : Int)), .d (.int (a : Int))] (.int (((e * s + a) % s ^ (w - 1) : Nat) : Int)) := fun e a => a3v H.G.S R e a
  generalize hNN : s ^ (w - 1) = N at *
  refine Spec.intro H.count_of rfl (TS.exV (tape := [.none]) rfl ⟨a1b H.B.R R, trivial⟩ (TS.exV (tape := [.none]) rfl ⟨a1w H.B R hl hs (m := 0) (Nat.zero_le _), trivial⟩ ?_))
  have e1 : (List.replicate ((N : Int)).toNat [D.int 1]).flatten = a0a (List.replicate N 1) := by erw [Int.toNat_natCast]; exact b1h N 1
  have e0 : (List.replicate ((N : Int)).toNat [D.int 0]).flatten = a0a (List.replicate N 0) := by erw [Int.toNat_natCast]; exact b1h N 0
  refine TS.cons (TS1.asg (TE.bin (TE.ev (tape := []) (cs := []) rfl trivial (TE.ev (tape := [.int (N : Int)]) (cs := [_]) rfl ⟨many, trivial⟩ ⟨_, .mulL rfl rfl (by omega) (by omega) (by erw [Int.toNat_natCast]; show 1 * N <= _; exact om76 hN8), ?_⟩))))
  erw [e1]
  refine TS.forS (tape := []) (cs := []) rfl trivial (a5b l) rfl (by erw [List.length_map]; exact a0s hl)
    (fun n ρ σ => ∃ x3 x4 x5 x6 x7, ρ = [some (.d (a0k s w t)), some (.a (.lst (a0a l))), some (.d (.lst (a0a (cvec s N t (l.take n))))), x3, x4, x5, x6, x7] /\ σ = List.replicate n .dead) ⟨none, none, none, none, none, rfl, rfl⟩
    (fun n x _ _ hx ⟨x3, x4, x5, x6, x7, e2, e3⟩ => ?_) (fun _ _ ⟨x3, x4, x5, x6, x7, e2, e3⟩ => ?_)
  . subst e2 e3
    obtain ⟨told, ht, rfl⟩ := a3e hx
    have hcl : (cvec s N t (l.take n)).length = N := b6x
    have ecv := c1k (s := s) (N := N) (t := t) ht
    generalize cvec s N t (l.take n) = c at *
    refine TS.cons (TS1.asg (TE.mulR (TE.ev (v := .d (.lst [.int 0])) (tape := []) (cs := []) rfl trivial (TE.ev (tape := [.int (N : Int)]) (cs := [_]) rfl ⟨many, trivial⟩ ⟨[.int 0], (N : Int), rfl, rfl, rfl, by omega, by omega, by erw [Int.toNat_natCast]; show 1 * N <= _; exact om76 hN8, ?_⟩))))
    erw [e0, List.length_replicate]
    refine TS.forR H.B.R.ok (m := N) (tape := [.int (N : Int)]) (cs := [_]) rfl ⟨many, trivial⟩ (om77 hN8)
      (fun e ρ σ => ∃ x5 x6 x7, ρ = [some (.d (a0k s w t)), some (.a (.lst (a0a l))), some (.d (.lst (a0a c))), some (.d (.int told)), some (.r n), x5, x6, x7] /\ σ = List.replicate n .dead ++ [.lst (a0a (ccol s N t told c e))]) ⟨_, _, _, rfl, rfl⟩
      (fun e _ _ he ⟨x5, x6, x7, e2, e3⟩ => ?_) (fun _ _ ⟨x5, x6, x7, e2, e3⟩ => ?_)
    . subst e2 e3
      have hccl : (ccol s N t told c e).length = N := a6m e
      refine TS.forR H.B.R.ok (m := s) (tape := []) (cs := []) rfl trivial (a1k R.s1000)
        (fun a ρ σ => ∃ x6 x7, ρ = [some (.d (a0k s w t)), some (.a (.lst (a0a l))), some (.d (.lst (a0a c))), some (.d (.int told)), some (.r n), some (.d (.int e)), x6, x7] /\ σ = List.replicate n .dead ++ [.lst (a0a (crow s N t told c e (ccol s N t told c e) a))]) ⟨_, _, rfl, rfl⟩
        (fun a _ _ ha ⟨x6, x7, e2, e3⟩ => ?_) (fun _ _ ⟨x6, x7, e2, e3⟩ => ?_)
      . subst e2 e3
        have hrl : (crow s N t told c e (ccol s N t told c e) a).length = N := by erw [a5c, hccl]
        have hlt : e * s + a < t.length := by
          erw [hlen]
          have := Nat.mul_le_mul_right s (Nat.succ_le_of_lt he)
          rw [Nat.succ_mul] at this
          exact om68 this ha
        obtain ⟨v, hv⟩ : ∃ v, t[e * s + a]? = some v := ⟨_, List.getElem?_eq_getElem hlt⟩
        have hm : (e * s + a) % N < N := Nat.mod_lt _ hN
        refine TS.iteV (tape := [.int v]) rfl ⟨a4k H.G.S R hv, trivial⟩ (fun h => ?_) fun h => ?_
        . cases beqN h
          have er : crow s N t told c e (ccol s N t told c e) (a + 1) = (crow s N t told c e (ccol s N t told c e) a).set ((e * s + a) % N) ((crow s N t told c e (ccol s N t told c e) a).getD ((e * s + a) % N) 0 + c.getD e 0) := by
            show (if t[e * s + a]? = some told then _ else _) = _
            erw [if_pos hv]
          generalize crow s N t told c e (ccol s N t told c e) a = l₁ at *
          refine TS.asgV (tape := [.int (((e * s + a) % N : Nat) : Int)]) rfl ⟨onw e a, trivial⟩ ?_
          have hz : (a0a l₁).length <= 16777216 := by erw [a0b, hrl]; exact om77 hN8
          have g1 : SubV (List.replicate n O.dead ++ [O.lst (a0a l₁)]) (.r n) (.d (.int (((e * s + a) % N : Nat) : Int))) (.d (.int ((l₁.getD ((e * s + a) % N) 0 : Nat) : Int))) := a0n (b := true) (seq_r a6o) hz (b6y (by erw [hrl]; exact hm))
          have g2 : SubV (List.replicate n O.dead ++ [O.lst (a0a l₁)]) (.d (.lst (a0a c))) (.d (.int (e : Int))) (.d (.int ((c.getD e 0 : Nat) : Int))) := a0n (b := true) rfl (by erw [a0b, hcl]; exact om77 hN8) (b6y (by erw [hcl]; exact he))
          refine TS.cons (TS1.asgS ((TEv.bin (op := .Add) (TEv.sub (TE.var rfl ⟨rfl, rfl⟩) (TE.var rfl ⟨rfl, rfl⟩) g1) (TEv.sub (TE.var rfl ⟨rfl, rfl⟩) (TE.var rfl ⟨rfl, rfl⟩) g2) (.int rfl rfl rfl trivial)).to (TE.var rfl (TE.var rfl ⟨_, .lst a6o rfl (Int.natCast_nonneg _) (by erw [a0b, hrl]; exact om78 hm) hz, ?_⟩))))
          erw [b7d, Int.toNat_natCast]
          refine TS.nil (TS.nil ⟨_, _, rfl, ?_⟩)
          erw [er, c5a]
          rfl
        . have er : crow s N t told c e (ccol s N t told c e) (a + 1) = crow s N t told c e (ccol s N t told c e) a := by
            show (if t[e * s + a]? = some told then _ else _) = _
            rw [if_neg (by erw [hv]; intro h'; cases h'; exact bneN h rfl)]
          refine TS.nil (TS.nil ⟨_, _, rfl, ?_⟩)
          erw [er]
      . subst e2 e3
        exact TS.nil ⟨_, _, _, rfl, rfl⟩
    . subst e2 e3
      refine TS.freeze a6o ?_
      have ef : ([some (.d (a0k s w t)), some (.a (.lst (a0a l))), some (.d (.lst (a0a c))), some (.d (.int told)), some (.r n), x5, x6, x7] : List (Option V)).map (frz n (.lst (a0a (ccol s N t told c N)))) = [some (.d (a0k s w t)), some (.a (.lst (a0a l))), some (.d (.lst (a0a c))), some (.d (.int told)), some (.d (.lst (a0a (ccol s N t told c N)))), frz n (.lst (a0a (ccol s N t told c N))) x5, frz n (.lst (a0a (ccol s N t told c N))) x6, frz n (.lst (a0a (ccol s N t told c N))) x7] := by
        show [_, _, _, _, (if n = n then some (V.d _) else _), _, _, _] = _
        erw [if_pos rfl]
        rfl
      erw [ef]
      refine TS.asgV (tape := []) (cs := []) rfl trivial (TS.nil ?_)
      show ∃ x3 x4 x5 x6 x7, _ /\ _
      erw [ecv]
      refine ⟨_, _, _, _, _, rfl, ?_⟩
      erw [List.set_append_right (h := by rw [List.length_replicate]; exact Nat.le_refl _), List.length_replicate, Nat.sub_self, List.replicate_succ']; rfl
  . subst e2 e3
    erw [List.length_map, a0b, List.take_length]
    refine TS.cons (TS1.ret (TE.sum1 H.B.R.ok (TE.var rfl ⟨(cvec s N t l).map fun (x : Nat) => (x : Int), ?_, ?_⟩)))
    . show some (D.lst (a0a (cvec s N t l))) = _
      unfold a0a; erw [List.map_map]; rfl
    . erw [b6z]; rfl
end
end Mine
end
section
open PySem PyProof.Rows PySem.SeqAt
namespace Mine
noncomputable def a1z (s N : Nat) (t : List Nat) : List Nat -> Nat -> Bool
  | [], _ => true
  | x :: p, e => (List.range s).any fun a => t[e * s + a]? == some x && a1z s N t p ((e * s + a) % N)
noncomputable def firstA (s N : Nat) (t : List Nat) (x : Nat) (p : List Nat) (e : Nat) : Option Nat := (List.range s).find? fun a => t[e * s + a]? == some x && a1z s N t p ((e * s + a) % N)
noncomputable def a3k (s N : Nat) (t : List Nat) : List Nat -> Nat -> List Nat
  | [], _ => []
  | x :: p, e => (firstA s N t x p e).getD 0 :: a3k s N t p ((e * s + (firstA s N t x p e).getD 0) % N)
noncomputable def endA (s N : Nat) (t : List Nat) : List Nat -> Nat -> Nat -> Nat
  | _, e, 0 => e
  | [], e, _ + 1 => e
  | x :: p, e, j + 1 => endA s N t p ((e * s + (firstA s N t x p e).getD 0) % N) j
section
variable {s N : Nat} {t : List Nat}
theorem a8z : ∀ (p : List Nat) (e : Nat), (a3k s N t p e).length = p.length
  | [], _ => rfl
  | _ :: p, _ => congrArg Nat.succ (a8z p _)
theorem a3y {x : Nat} {p : List Nat} {e : Nat} (h : a1z s N t (x :: p) e = true) : ∃ a, firstA s N t x p e = some a /\ a < s /\ t[e * s + a]? = some x /\ a1z s N t p ((e * s + a) % N) = true := by
  refine xEA (List.any_eq_true.mp h) fun a ha h2 => ?_
  cases hf : firstA s N t x p e with
  | none =>
    have := List.find?_eq_none.mp hf a ha
    exact absurd h2 this
  | some b =>
    have h1 := List.find?_some hf
    rw [Bool.and_eq_true, beq_iff_eq] at h1
    exact ⟨b, rfl, List.mem_range.mp (List.mem_of_find?_eq_some hf), h1.1, h1.2⟩
theorem b3g (hN : 0 < N) : ∀ (p ends : List Nat), p.foldl (a1n s N t) ends ≠ [] ↔ ∃ e ∈ ends, a1z s N t p e = true
  | [], ends => by
    constructor
    . intro h; obtain ⟨e, he⟩ := List.exists_mem_of_ne_nil _ h; exact ⟨e, he, rfl⟩
    . rintro ⟨e, he, _⟩ h; rw [show ends = [] from h] at he; cases he
  | x :: p, ends => by
    erw [List.foldl_cons, b3g hN p]
    constructor
    . rintro ⟨n, hn, hg⟩
      obtain ⟨e, he, a, ha, h1, h2⟩ := (a2e hN).mp hn
      refine ⟨e, he, List.any_eq_true.mpr ⟨a, List.mem_range.mpr ha, ?_⟩⟩
      erw [Bool.and_eq_true, beq_iff_eq, h2]
      exact ⟨h1, hg⟩
    . rintro ⟨e, he, hg⟩
      refine xEA (List.any_eq_true.mp hg) fun a ha h2 => ?_
      rw [Bool.and_eq_true, beq_iff_eq] at h2
      exact ⟨_, (a2e hN).mpr ⟨e, he, a, List.mem_range.mp ha, h2.1, rfl⟩, h2.2⟩
theorem b0e (hN : 0 < N) {p : List Nat} : reach s N t p ≠ [] ↔ ∃ e, e < N /\ a1z s N t p e = true := by
  unfold reach
  rw [b3g hN]
  exact ⟨fun ⟨e, h, g⟩ => ⟨e, List.mem_range.mp h, g⟩, fun ⟨e, h, g⟩ => ⟨e, List.mem_range.mpr h, g⟩⟩
theorem b3h : ∀ {p : List Nat} {e j x : Nat}, p[j]? = some x -> (a3k s N t p e)[j]? = some ((firstA s N t x (p.drop (j + 1)) (endA s N t p e j)).getD 0) /\ endA s N t p e (j + 1) = (endA s N t p e j * s + (firstA s N t x (p.drop (j + 1)) (endA s N t p e j)).getD 0) % N
  | [], e, j, x, h => by rw [List.getElem?_nil] at h; exact dNS h
  | y :: p, e, 0, x, h => by
    cases h
    refine ⟨rfl, ?_⟩
    cases p <;> rfl
  | y :: p, e, j + 1, x, h => b3h (p := p) (j := j) h
theorem b3i : ∀ {p : List Nat} {e j : Nat}, j <= p.length -> a1z s N t p e = true -> a1z s N t (p.drop j) (endA s N t p e j) = true
  | p, e, 0, _, h => by cases p <;> exact h
  | [], e, j + 1, hj, h => absurd hj (Nat.not_succ_le_zero _)
  | x :: p, e, j + 1, hj, h => by
    refine b1q (a3y h) fun a h1 ζ ζ h4 => ?_
    show a1z s N t (p.drop j) (endA s N t p ((e * s + (firstA s N t x p e).getD 0) % N) j) = true
    erw [h1]
    exact b3i (Nat.le_of_succ_le_succ hj) h4
theorem c1l (hN : 0 < N) : ∀ {p : List Nat} {e j : Nat}, e < N -> endA s N t p e j < N
  | p, e, 0, h => by cases p <;> exact h
  | [], e, j + 1, h => h
  | x :: p, e, j + 1, h => c1l hN (p := p) (Nat.mod_lt _ hN)
theorem c5b {w y : Nat} {l : List Nat} (h : w <= l.length + 1) (hw : 1 <= w) : onL s w t (y :: l) = t.getD (a0o s ((y :: l).take w)) 0 :: onL s w t l := by
  unfold onL
  erw [List.length_cons, show l.length + 1 + 1 - w = (l.length + 1 - w) + 1 by exact om79 h, List.range_succ_eq_map, List.map_cons, List.map_map]
  rfl
theorem a5d {c : List Nat} {a : Nat} : a0o s (c ++ [a]) = a0o s c * s + a := by unfold a0o; erw [List.foldl_append]; rfl
theorem c1m {w : Nat} (hw : 1 <= w) (hs : 0 < s) (hN : s ^ (w - 1) = N) : ∀ (p c : List Nat) (e : Nat), c.length = w - 1 -> (∀ x ∈ c, x < s) -> a0o s c = e -> a1z s N t p e = true -> onL s w t (c ++ a3k s N t p e) = p /\ ∀ x ∈ a3k s N t p e, x < s
  | [], c, e, hc, hl, he, _ => by
    refine ⟨?_, fun x hx => absurd hx List.not_mem_nil⟩
    unfold onL
    show (List.range ((c ++ []).length + 1 - w)).map _ = []
    rw [List.append_nil, hc, show w - 1 + 1 - w = 0 by exact om80 hw]
    rfl
  | x :: p, c, e, hc, hl, he, hg => by
    refine b1q (a3y hg) fun a h1 h2 h3 h4 => ?_
    have ew : a3k s N t (x :: p) e = a :: a3k s N t p ((e * s + a) % N) := by
      show (firstA s N t x p e).getD 0 :: a3k s N t p ((e * s + (firstA s N t x p e).getD 0) % N) = _
      erw [h1]; rfl
    erw [ew]
    obtain ⟨y, c', hcc⟩ : ∃ y c', c ++ [a] = y :: c' := by
      cases h : c ++ [a] with
      | nil => exact absurd h (by simp)
      | cons y c' => exact ⟨y, c', rfl⟩
    have hl' : ∀ z ∈ y :: c', z < s := fun z hz => by
      rw [← hcc] at hz
      rcases List.mem_append.mp hz with hz | hz
      . exact hl z hz
      . erw [List.mem_singleton.mp hz]; exact h2
    have hlen : c'.length = w - 1 := by
      have := congrArg List.length hcc
      rw [List.length_append, List.length_cons, hc] at this
      exact (Nat.succ.inj this).symm
    have hnum : a0o s c' = (e * s + a) % N := by
      have h5 : a0o s (y :: c') = e * s + a := by erw [← hcc, a5d, he]
      rw [a2t, hlen, hN] at h5
      have h6 : a0o s c' < N := by erw [← hN, ← hlen]; exact a2q fun z hz => hl' z (.tail _ hz)
      erw [← h5, Nat.mul_comm, Nat.mul_add_mod, Nat.mod_eq_of_lt h6]
    have ih := c1m hw hs hN p c' ((e * s + a) % N) hlen (fun z hz => hl' z (.tail _ hz)) hnum h4
    have erow : c ++ a :: a3k s N t p ((e * s + a) % N) = y :: (c' ++ a3k s N t p ((e * s + a) % N)) := by
      erw [← List.cons_append, ← hcc, List.append_assoc]; rfl
    refine ⟨?_, fun z hz => ?_⟩
    . erw [erow, c5b (by rw [List.length_append, hlen]; exact om81) hw, ih.1]
      have etake : (y :: (c' ++ a3k s N t p ((e * s + a) % N))).take w = c ++ [a] := by
        erw [← List.cons_append, ← hcc, List.take_append_of_le_length (by rw [List.length_append, hc]; show w <= w - 1 + 1; exact om82), List.take_of_length_le (by rw [List.length_append, hc]; show w - 1 + 1 <= w; exact om83 hw)]
      erw [etake, a5d, he, List.getD_eq_getElem?_getD, h3]
      rfl
    . rcases List.mem_cons.mp hz with rfl | hz
      . exact h2
      . exact ih.2 z hz
end
noncomputable def a0x (s w : Nat) (t p : List Nat) : D := match (List.range (s ^ (w - 1))).find? (a1z s (s ^ (w - 1)) t p) with
  | none => .none
  | some e => .lst (a0a (digs s (w - 1) e ++ a3k s (s ^ (w - 1)) t p e))
theorem b5d {s w : Nat} {t p : List Nat} (hN : 0 < s ^ (w - 1)) (h : reach s (s ^ (w - 1)) t p = []) : a0x s w t p = .none := by
  unfold a0x
  have : (List.range (s ^ (w - 1))).find? (a1z s (s ^ (w - 1)) t p) = none := List.find?_eq_none.mpr fun e he hg => (b0e hN).mpr ⟨e, List.mem_range.mp he, hg⟩ h
  erw [this]
theorem b5e {s w : Nat} {t p : List Nat} (hw : 1 <= w) (hs : 0 < s) (h : reach s (s ^ (w - 1)) t p ≠ []) : ∃ row, a0x s w t p = .lst (a0a row) /\ row.length = w - 1 + p.length /\ (∀ x ∈ row, x < s) /\ onL s w t row = p := by
  have hN : 0 < s ^ (w - 1) := Nat.pow_pos hs
  refine xEA ((b0e hN).mp h) fun e he hg => ?_
  cases hf : (List.range (s ^ (w - 1))).find? (a1z s (s ^ (w - 1)) t p) with
  | none => exact absurd hg (List.find?_eq_none.mp hf e (List.mem_range.mpr he))
  | some e0 =>
    have hg0 := List.find?_some hf
    have h0 := List.mem_range.mp (List.mem_of_find?_eq_some hf)
    have k := c1m (t := t) hw hs rfl p (digs s (w - 1) e0) e0 (a1g _ _ _) (a3i hs _ _) (a2s h0) hg0
    refine ⟨_, by unfold a0x; erw [hf], by erw [List.length_append, a1g, a8z], fun x hx => ?_, k.1⟩
    rcases List.mem_append.mp hx with hx | hx
    . exact a3i hs _ _ x hx
    . exact k.2 x hx
end Mine
end
section
open PySem PyProof.Rows PySem.SeqAt
namespace Mine
noncomputable def optD : Option Nat -> D
  | none => .none
  | some a => .int (a : Int)
structure DK (kvs : List (Int × D)) (P : Nat -> Prop) : Prop where
  nd : (kvs.map (·.1)).Nodup
  mem : ∀ z : Int, z ∈ kvs.map (·.1) ↔ ∃ e : Nat, z = (e : Int) /\ P e
theorem DK.nil : DK [] fun ζ => False := ⟨List.nodup_nil, fun z => ⟨fun h => absurd h List.not_mem_nil, fun ⟨_, _, h⟩ => h.elim⟩⟩
theorem DK.put {kvs : List (Int × D)} {P : Nat -> Prop} (h : DK kvs P) (e : Nat) (x : D) : DK (Mine.put kvs (e : Int) x) fun n => P n ∨ n = e :=
  ⟨b2u h.nd, fun z => by
    rw [c0h, h.mem]
    constructor
    . rintro (⟨n, rfl, hn⟩ | rfl)
      . exact ⟨n, rfl, .inl hn⟩
      . exact ⟨e, rfl, .inr rfl⟩
    . rintro ⟨n, rfl, hn | rfl⟩
      . exact .inl ⟨n, rfl, hn⟩
      . exact .inr rfl⟩
theorem DK.cast {kvs : List (Int × D)} {P P' : Nat -> Prop} (h : DK kvs P) (hp : ∀ n, P n ↔ P' n) : DK kvs P' :=
  ⟨h.nd, fun z => (h.mem z).trans ⟨fun ⟨e, h1, h2⟩ => ⟨e, h1, (hp e).mp h2⟩, fun ⟨e, h1, h2⟩ => ⟨e, h1, (hp e).mpr h2⟩⟩⟩
theorem DK.has {kvs : List (Int × D)} {P : Nat -> Prop} (h : DK kvs P) (n : Nat) : (lk kvs (n : Int)).isSome = true ↔ P n := by
  rw [b0y, h.mem]
  exact ⟨fun ⟨e, h1, h2⟩ => Int.ofNat.inj h1 ▸ h2, fun h => ⟨n, rfl, h⟩⟩
theorem DK.len {kvs : List (Int × D)} {P : Nat -> Prop} (h : DK kvs P) {N : Nat} (hN : ∀ n, P n -> n < N) : kvs.length <= N := by
  have := b6l h.nd (N := N) fun z hz => by refine xEA ((h.mem z).mp hz) fun e h1 h2 => ?_; exact ⟨e, h1, hN e h2⟩
  rwa [List.length_map] at this
theorem DK.least {kvs : List (Int × D)} {p : Nat -> Bool} {N : Nat} (h : DK kvs fun n => n < N /\ p n = true) (hne : kvs ≠ []) : ∃ e, (List.range N).find? p = some e /\ b0b kvs = (e : Int) := by
  refine xEAA ((h.mem _).mp (b7x hne)) fun e h1 h2 h3 => ?_
  refine ⟨e, ?_, h1⟩
  rw [List.find?_range_eq_some]
  refine ⟨h3, List.mem_range.mpr h2, fun j hj => ?_⟩
  cases hp : p j with
  | false => rfl
  | true =>
    have := c1b ((h.mem (j : Int)).mpr ⟨j, rfl, Nat.lt_trans hj h2, hp⟩)
    rw [h1] at this
    exact om84 this hj
theorem DK.empty {kvs : List (Int × D)} {p : Nat -> Bool} {N : Nat} (h : DK kvs fun n => n < N /\ p n = true) (he : kvs = []) : (List.range N).find? p = none := List.find?_eq_none.mpr fun e hm hp => by
  have := (h.mem (e : Int)).mpr ⟨e, rfl, List.mem_range.mp hm, hp⟩
  rw [he] at this; cases this
section
variable {W : World0} {k : Nat} {ρ : List (Option V)} {σ : List O}
variable {s w : Nat} {t l : List Nat}
theorem b7z (H : HasO W) (R : OkR s w t) {e told : Nat} (he : e < s ^ (w - 1)) {kvs : List (Int × D)} {p : Nat -> Bool} (hp : ∀ n, n < s ^ (w - 1) -> (lk kvs (n : Int)).isSome = p n) :
    Spec W (k + 4) "leads" [.d (a0k s w t), .d (.int (e : Int)), .d (.int (told : Int)), .a (.dI kvs)] (optD ((List.range s).find? fun a => t[e * s + a]? == some told && p ((e * s + a) % s ^ (w - 1)))) := by
  refine Spec.intro H.leads rfl (TS.forR H.B.R.ok (m := s) (tape := []) (cs := []) rfl trivial (a1k R.s1000)
    (fun a ρ σ => (∃ x, ρ = [some (.d (a0k s w t)), some (.d (.int (e : Int))), some (.d (.int (told : Int))), some (.a (.dI kvs)), x]) /\ σ = [] /\ ∀ b, b < a -> (t[e * s + b]? == some told && p ((e * s + b) % s ^ (w - 1))) = false) ⟨⟨none, rfl⟩, rfl, fun b h => absurd h (Nat.not_lt_zero _)⟩
    (fun a _ _ ha ⟨⟨x, e1⟩, e2, e3⟩ => ?_) (fun _ _ ⟨⟨x, e1⟩, e2, e3⟩ => ?_))
  . subst e1 e2
    refine xE (b4w R he ha) fun v hv => ?_
    have hm : (e * s + a) % s ^ (w - 1) < s ^ (w - 1) := Nat.mod_lt _ R.pos
    have tc := TCv.and (TCv.ev (W := W) (k := k + 3) (e := .cmp .Eq (.call "told_by" [(.var 0), (.var 1), (.var 4)]) (.var 2)) (ρ := [some (.d (a0k s w t)), some (.d (.int (e : Int))), some (.d (.int (told : Int))), some (.a (.dI kvs)), some (.d (.int (a : Int)))]) (σ := []) (b := (v : Int) == (told : Int)) (tape := [.int (v : Int)]) rfl ⟨a4k H.G.S R hv, trivial⟩)
      (TCv.and (TCv.cmp (TEv.ev (e := .call "onward" [(.var 0), (.var 1), (.var 4)]) (tape := [.int (((e * s + a) % s ^ (w - 1) : Nat) : Int)]) (cs := [_]) rfl ⟨a3v H.G.S R e a, trivial⟩) (TEv.ev (e := .var 3) (tape := []) (cs := []) rfl trivial) (.inDI rfl rfl)) c0b)
    have ec : (((v : Int) == (told : Int)) && ((lk kvs (((e * s + a) % s ^ (w - 1) : Nat) : Int)).isSome && true)) = (t[e * s + a]? == some told && p ((e * s + a) % s ^ (w - 1))) := by
      erw [hp _ hm, Bool.and_true, hv]
      congr 1
      by_cases h : v = told
      . subst h; rw [beq_self_eq_true, beq_self_eq_true]
      . erw [show ((v : Int) == (told : Int)) = false from beq_eq_false_iff_ne.mpr fun h' => h (Int.ofNat.inj h'), show (some v == some told) = false from beq_eq_false_iff_ne.mpr fun h' => h (Option.some.inj h')]
    rw [ec] at tc
    refine TS.iteC tc (fun hb => TS.retV (tape := []) (cs := []) rfl trivial ?_) (fun hb => TS.nil (TS.nil ⟨⟨_, rfl⟩, rfl, fun b hlt => ?_⟩))
    . have : (List.range s).find? (fun a => t[e * s + a]? == some told && p ((e * s + a) % s ^ (w - 1))) = some a := by
        rw [List.find?_range_eq_some]
        exact ⟨hb, List.mem_range.mpr ha, fun j hj => by erw [e3 j hj]; rfl⟩
      show some (D.int (a : Int)) = some (optD _)
      erw [this]; rfl
    . rcases Nat.lt_succ_iff_lt_or_eq.mp hlt with h | rfl
      . exact e3 b h
      . exact hb
  . subst e1 e2
    have : (List.range s).find? (fun a => t[e * s + a]? == some told && p ((e * s + a) % s ^ (w - 1))) = none := List.find?_eq_none.mpr fun b hb => by erw [e3 b (List.mem_range.mp hb)]; exact Bool.false_ne_true
    exact TS.retV (tape := []) (cs := []) rfl trivial (by show some D.none = some (optD _); erw [this]; rfl)
end
end Mine
end
section
open PySem PyProof.Rows PySem.SeqAt
namespace Mine
theorem c5c {σ : List O} {v : V} {b : Bool} {l : List V} {n : Nat} {x : V} (hv : seqV σ v = some (b, l)) (hl : l.length <= 16777216) (hx : l[n]? = some x) : SubV σ v (.d (.int (n : Int))) x := by
  have hlt : n < l.length := (List.getElem?_eq_some_iff.mp hx).1
  have hn : (n : Int) < 16777216 := Int.ofNat_lt.mpr (Nat.lt_of_lt_of_le hlt hl)
  refine .seq hv rfl (j := n) ?_ hx ⟨Int.le_trans (by decide) (Int.natCast_nonneg n), Int.lt_trans hn (by decide)⟩
  unfold seqIndex?
  erw [if_neg (Int.not_lt.mpr (Int.natCast_nonneg n)), if_pos (by rw [Bool.and_eq_true, decide_eq_true_eq, decide_eq_true_eq]; exact ⟨Int.natCast_nonneg n, Int.ofNat_lt.mpr hlt⟩), Int.toNat_natCast]
noncomputable def ixG (m j : Nat) : Nat := if j < m then j else m + 1
noncomputable def b5f (m : Nat) : List V := (List.range m).map V.r ++ [.r (m + 1)]
set_option tactic.hygienic true in
theorem c1n {m j : Nat} (h : j <= m) : (b5f m)[j]? = some (.r (ixG m j)) := by
  unfold b5f ixG
  split
  . rename_i hj
    rw [List.getElem?_append_left (by rw [List.length_map, List.length_range]; exact hj), List.getElem?_map, List.getElem?_range hj]; rfl
  . rename_i hj
    have : j = m := by exact om85 h hj
    subst this
    erw [List.getElem?_append_right (by rw [List.length_map, List.length_range]; exact Nat.le_refl _), List.length_map, List.length_range, Nat.sub_self]; rfl
theorem c1o {m : Nat} : (b5f m).length = m + 1 := by unfold b5f; erw [List.length_append, List.length_map, List.length_range]; rfl
structure OS (σ : List O) (m : Nat) (f : Nat -> List (Int × D)) : Prop where
  lst : σ[m]? = some (.lstV (b5f m))
  dic : ∀ j, j <= m -> σ[ixG m j]? = some (.dI (f j))
theorem c9i {m i j : Nat} (hi : i <= m) (hj : j <= m) (h : ixG m i = ixG m j) : i = j := by
  unfold ixG at h
  split at h <;> split at h <;> omega
theorem c6s {m j : Nat} : ixG m j ≠ m := by
  unfold ixG
  split <;> omega
theorem seq_rV {σ : List O} {n : Nat} {l : List V} (e : σ[n]? = some (.lstV l)) : seqV σ (.r n) = some (true, l) := by
  show (match σ[n]? with | some (.lst l) => some (true, l.map V.d) | some (.lstV l) => some (true, l) | _ => none) = _
  erw [e]
theorem b5g {σ : List O} {n : Nat} {l : List (Int × D)} (e : σ[n]? = some (.dI l)) : a0i σ (.r n) = some (.dI l) := by
  show (match σ[n]? with | some (.lst l) => some (D.lst l) | some (.dI l) => some (.dI l) | some (.dT l) => some (.dT l) | _ => none) = _
  erw [e]
theorem OS.sub {σ : List O} {m : Nat} {f : Nat -> List (Int × D)} (o : OS σ m f) (hm : m <= 1000) {j : Nat} (hj : j <= m) : SubV σ (.r m) (.d (.int (j : Int))) (.r (ixG m j)) := c5c (seq_rV o.lst) (by erw [c1o]; exact om86 hm) (c1n hj)
theorem OS.put {σ : List O} {m : Nat} {f : Nat -> List (Int × D)} (o : OS σ m f) {j : Nat} (hj : j <= m) (kv : List (Int × D)) : OS (σ.set (ixG m j) (.dI kv)) m fun i => if i = j then kv else f i := by
  refine ⟨by erw [List.getElem?_set_ne c6s]; exact o.lst, fun i hi => ?_⟩
  by_cases h : i = j
  . subst h
    erw [if_pos rfl, List.getElem?_set_self (List.getElem?_eq_some_iff.mp (o.dic i hi)).1]
  . erw [if_neg h, List.getElem?_set_ne fun h' => h (c9i hj hi h').symm]; exact o.dic i hi
theorem OS.snoc {σ : List O} {m : Nat} {f : Nat -> List (Int × D)} (o : OS σ m f) {x : O} : OS (σ ++ [x]) m f :=
  ⟨by erw [List.getElem?_append_left (List.getElem?_eq_some_iff.mp o.lst).1]; exact o.lst, fun i hi => by erw [List.getElem?_append_left (List.getElem?_eq_some_iff.mp (o.dic i hi)).1]; exact o.dic i hi⟩
theorem b3j {l : List Nat} {j x : Nat} (h : l[j]? = some x) : l.drop j = x :: l.drop (j + 1) := by
  obtain ⟨hj, rfl⟩ := List.getElem?_eq_some_iff.mp h
  exact List.drop_eq_getElem_cons hj
theorem c5d {p : Nat -> Bool} {n : Nat} : (List.range n).any p = ((List.range n).find? p).isSome := by rw [Bool.eq_iff_iff, List.any_eq_true, List.find?_isSome]
theorem c1p {s N : Nat} {t : List Nat} {x : Nat} {p : List Nat} {e : Nat} : a1z s N t (x :: p) e = (firstA s N t x p e).isSome := c5d
section
variable {W : World0} {k : Nat}
variable {s w : Nat} {t l : List Nat}
theorem b3k (H : HasO W) (R : OkR s w t) (hl : l.length <= 1000) {σ : List O} {f : Nat -> List (Int × D)} (o : OS σ l.length f) {a x e : Nat} {q6 q7 v3 : Option V} (hx : l[a]? = some x) (he : e < s ^ (w - 1)) (dk : DK (f (a + 1)) fun n => n < s ^ (w - 1) /\ a1z s (s ^ (w - 1)) t (l.drop (a + 1)) n = true) :
    TEv W (k + 4) (.call "leads" [(.var 0), (.var 4), (.sub (.var 1) (.var 5)), (.sub (.var 2) (.bin .Add (.var 5) (.int 1)))]) [some (.d (a0k s w t)), some (.a (.lst (a0a l))), some (.r l.length), v3, some (.d (.int (e : Int))), some (.d (.int (a : Int))), q6, q7] σ (.d (optD (firstA s (s ^ (w - 1)) t x (l.drop (a + 1)) e))) := by
  have ha : a < l.length := (List.getElem?_eq_some_iff.mp hx).1
  have hs := b7z (k := k) H R (told := x) he (kvs := f (a + 1)) (p := a1z s (s ^ (w - 1)) t (l.drop (a + 1))) fun n hn => by
    rw [Bool.eq_iff_iff, dk.has]
    exact ⟨fun h => h.2, fun h => ⟨hn, h⟩⟩
  have g1 : SubV σ (.r l.length) (.d (.int ((a : Int) + 1))) (.r (ixG l.length (a + 1))) := o.sub hl (j := a + 1) ha
  exact TEv.call (by intro h; exact dCN h) (TEsv.cons (TE.var rfl ⟨rfl, rfl⟩) (TEsv.cons (TE.var rfl ⟨rfl, rfl⟩) (TEsv.cons (TEv.sub (TE.var rfl ⟨rfl, rfl⟩) (TE.var rfl ⟨rfl, rfl⟩) (a0n (a5b l) (a0s hl) (a2l hx)))
    (TEsv.cons (TEv.sub (TE.var rfl ⟨rfl, rfl⟩) (TEv.bin (op := .Add) (TE.var rfl ⟨rfl, rfl⟩) (TE.int ⟨rfl, rfl⟩) (.int rfl rfl rfl trivial)) g1) ⟨rfl, rfl⟩)))) (.cons (.d _) (.cons (.d _) (.cons (.d _) (.cons (.a (b5g (o.dic (a + 1) ha))) .nil)))) hs
theorem DK.upto {kvs : List (Int × D)} {n : Nat} (h : DK kvs fun e => e < n) (x : D) : DK (Mine.put kvs (n : Int) x) fun e => e < n + 1 := (h.put n x).cast fun e => by exact om87
end
end Mine
end
section
open PySem PyProof.Rows PySem.SeqAt
namespace Mine
section
variable {W : World0} {k : Nat} {Q : Out -> List (Option V) -> List O -> Prop}
variable {s w : Nat} {t l : List Nat}
noncomputable def rO (s w : Nat) (t l : List Nat) (x y z u : Option V) : List (Option V) := [some (.d (a0k s w t)), some (.a (.lst (a0a l))), some (.r l.length), some (.r (l.length + 1)), x, y, z, u]
structure Fill (s w : Nat) (t l : List Nat) (σ : List O) (f : Nat -> List (Int × D)) (i : Nat) : Prop where
  os : OS σ l.length f
  len : σ.length = l.length + 2
  done : ∀ j, l.length - i <= j -> j <= l.length -> DK (f j) fun e => e < s ^ (w - 1) /\ a1z s (s ^ (w - 1)) t (l.drop j) e = true
  free : ∀ j, j < l.length - i -> f j = []
theorem c1q (H : HasO W) (R : OkR s w t) (hl : l.length <= 1000) {i : Nat} (hi : i < l.length) {σ : List O} {f : Nat -> List (Int × D)} (F : Fill s w t l σ f i) {x y : Option V}
    (q : ∀ x' σ' f', Fill s w t l σ' f' (i + 1) -> Q .next (rO s w t l x' (some (.d (.int ((l.length - 1 - i : Nat) : Int)))) none none) σ') :
    TS W (k + 4) [.for1 4 (.prim "range" [(.call "many_ends" [(.var 0)])]) [.ite (.cmp .IsNot (.call "leads" [(.var 0), (.var 4), (.sub (.var 1) (.var 5)), (.sub (.var 2) (.bin .Add (.var 5) (.int 1)))]) .none) [.asgS (.sub (.var 2) (.var 5)) (.var 4) (.bool true)] []]]
      (rO s w t l x (some (.d (.int ((l.length - 1 - i : Nat) : Int)))) none none) σ Q := by
  have hN8 := R.n8
  have many : Spec W (k + 4) "many_ends" [.d (a0k s w t)] (.int ((s ^ (w - 1) : Nat) : Int)) := a1m H.G.S R
  have hat : l.length - 1 - i < l.length := by exact om88 hi
  have ea : l.length - 1 - i + 1 = l.length - i := by exact om89 hi
  generalize hA : l.length - 1 - i = at' at *
  obtain ⟨a, ha⟩ : ∃ a, l[at']? = some a := ⟨_, List.getElem?_eq_getElem hat⟩
  have hdrop := b3j ha
  refine TS.forR H.B.R.ok (m := s ^ (w - 1)) (tape := [.int ((s ^ (w - 1) : Nat) : Int)]) (cs := [_]) rfl ⟨many, trivial⟩ (om77 hN8)
    (fun n ρ σ₁ => ∃ x' f', ρ = rO s w t l x' (some (.d (.int (at' : Int)))) none none /\ OS σ₁ l.length f' /\ σ₁.length = l.length + 2 /\ (∀ j, j ≠ at' -> f' j = f j) /\ DK (f' at') fun e => e < n /\ a1z s (s ^ (w - 1)) t (l.drop at') e = true)
    ⟨x, f, rfl, F.os, F.len, fun ζ ζ => rfl, by erw [F.free at' (om90 ea)]; exact DK.nil.cast fun n => ⟨fun h => h.elim, fun h => absurd h.1 (Nat.not_lt_zero _)⟩⟩
    (fun n _ σ₁ hn ⟨x', f', e1, o, ln, oth, dk⟩ => ?_) (fun _ σ₁ ⟨x', f', e1, o, ln, oth, dk⟩ => ?_)
  . subst e1
    have dk1 : DK (f' (at' + 1)) fun e => e < s ^ (w - 1) /\ a1z s (s ^ (w - 1)) t (l.drop (at' + 1)) e = true := by
      erw [oth (at' + 1) om91]
      exact F.done (at' + 1) (om92 ea) (om93 ea)
    have tcall := b3k (k := k) H R hl o (q6 := none) (q7 := none) (v3 := some (.r (l.length + 1))) ha hn dk1
    have hg : a1z s (s ^ (w - 1)) t (l.drop at') n = (firstA s (s ^ (w - 1)) t a (l.drop (at' + 1)) n).isSome := by erw [hdrop]; exact c1p
    have tc := TCv.cmp tcall (TEv.ev (e := .none) (tape := []) (cs := []) rfl trivial) (.isNotN (σ := σ₁) rfl fun g hf => by cases h : firstA s (s ^ (w - 1)) t a (l.drop (at' + 1)) n <;> (rw [h] at hf; cases hf))
    obtain ⟨bb, hbb, tc⟩ : ∃ bb : Bool, bb = a1z s (s ^ (w - 1)) t (l.drop at') n /\ TCv W (k + 4) (.cmp .IsNot (.call "leads" [(.var 0), (.var 4), (.sub (.var 1) (.var 5)), (.sub (.var 2) (.bin .Add (.var 5) (.int 1)))]) .none) [some (.d (a0k s w t)), some (.a (.lst (a0a l))), some (.r l.length), some (.r (l.length + 1)), some (.d (.int (n : Int))), some (.d (.int (at' : Int))), none, none] σ₁ bb := ⟨_, by erw [hg]; cases firstA s (s ^ (w - 1)) t a (l.drop (at' + 1)) n <;> rfl, tc⟩
    subst hbb
    refine TS.iteC tc (fun hb => ?_) (fun hb => TS.nil (TS.nil ⟨_, f', rfl, o, ln, oth, dk.cast fun e => ?_⟩))
    . have hlen : (f' at').length <= 16777216 := Nat.le_trans (dk.len (N := s ^ (w - 1)) fun e h => Nat.lt_trans h.1 hn) (om77 hN8)
      refine TS.cons (TS1.asgS (TE.bool ((TEv.sub (TE.var (val := .r l.length) rfl ⟨rfl, rfl⟩) (TE.var (val := .d (.int (at' : Int))) rfl ⟨rfl, rfl⟩) (o.sub hl (Nat.le_of_lt hat))).to (TE.var (val := .d (.int (n : Int))) rfl ⟨_, .dI (o.dic at' (Nat.le_of_lt hat)) rfl hlen, ?_⟩))))
      refine TS.nil (TS.nil ⟨_, _, rfl, o.put (Nat.le_of_lt hat) _, by erw [List.length_set]; exact ln, fun j hj => by erw [if_neg hj]; exact oth j hj, ?_⟩)
      erw [if_pos rfl]
      refine (dk.put n (.bool true)).cast fun e => ?_
      constructor
      . rintro (h | rfl)
        . exact ⟨by omega, h.2⟩
        . exact ⟨by exact om58, hb⟩
      . rintro ⟨h1, h2⟩
        rcases Nat.lt_succ_iff_lt_or_eq.mp h1 with h | rfl
        . exact .inl ⟨h, h2⟩
        . exact .inr rfl
    . constructor
      . rintro ⟨h1, h2⟩; exact ⟨by exact om59 h1, h2⟩
      . rintro ⟨h1, h2⟩
        rcases Nat.lt_succ_iff_lt_or_eq.mp h1 with h | rfl
        . exact ⟨h, h2⟩
        . rw [hb] at h2; exact dFT h2
  . subst e1
    refine TS.nil (q x' σ₁ f' ⟨o, ln, fun j h1 h2 => ?_, fun j h => ?_⟩)
    . by_cases hj : j = at'
      . subst hj; exact dk
      . erw [oth j hj]; exact F.done j (om94 h1 ea hj) h2
    . erw [oth j (om95 h ea)]; exact F.free j (om96 h)
theorem forth (H : HasO W) (R : OkR s w t) (hl : l.length <= 1000) {σ : List O} {f : Nat -> List (Int × D)} (F : Fill s w t l σ f l.length) {e0 : Nat} (h0 : e0 < s ^ (w - 1)) (hg : a1z s (s ^ (w - 1)) t l e0 = true) {y u : Option V} :
    TS W (k + 4) [.for1 5 (.prim "range" [(.prim "len" [(.var 1)])]) [.asg 7 (.call "leads" [(.var 0), (.var 4), (.sub (.var 1) (.var 5)), (.sub (.var 2) (.bin .Add (.var 5) (.int 1)))]), .ex (.meth (.var 6) "append" [(.var 7)]), .asg 4 (.call "onward" [(.var 0), (.var 4), (.var 7)])], .ret (.var 6)]
      (rO s w t l (some (.d (.int (e0 : Int)))) y (some (.r (l.length + 2))) u) (σ ++ [.lst (a0a (digs s (w - 1) e0))]) (retQ (.lst (a0a (digs s (w - 1) e0 ++ a3k s (s ^ (w - 1)) t l e0)))) := by
  have hw4 := R.w4
  have hwl : (a3k s (s ^ (w - 1)) t l e0).length = l.length := a8z l e0
  refine TS.forR H.B.R.ok (m := l.length) (tape := [.int ((a0a l).length : Int)]) (cs := [_]) (by rw [a0b]; rfl) ⟨TEq.len H.B.R.ok (tape := []) (cs := []) rfl trivial rfl rfl (a0s hl), trivial⟩ (a1k hl)
    (fun j ρ σ₁ => ∃ y' u', ρ = rO s w t l (some (.d (.int ((endA s (s ^ (w - 1)) t l e0 j : Nat) : Int)))) y' (some (.r (l.length + 2))) u' /\ σ₁ = σ ++ [.lst (a0a (digs s (w - 1) e0 ++ (a3k s (s ^ (w - 1)) t l e0).take j))])
    ⟨y, u, by cases l <;> rfl, by erw [List.take_zero, List.append_nil]⟩ (fun j _ _ hj ⟨y', u', e1, e2⟩ => ?_) (fun _ _ ⟨y', u', e1, e2⟩ => ?_)
  . subst e1 e2
    obtain ⟨a, ha⟩ : ∃ a, l[j]? = some a := ⟨_, List.getElem?_eq_getElem hj⟩
    have hst := b3h (s := s) (N := s ^ (w - 1)) (t := t) (e := e0) ha
    have hgj := b3i (s := s) (N := s ^ (w - 1)) (t := t) (Nat.le_of_lt hj) hg
    have hlt : endA s (s ^ (w - 1)) t l e0 j < s ^ (w - 1) := c1l R.pos h0
    rw [b3j ha] at hgj
    refine b1q (a3y hgj) fun b hb1 hb2 ζ ζ => ?_
    rw [hb1] at hst
    generalize endA s (s ^ (w - 1)) t l e0 j = ej at *
    have tcall := b3k (k := k) H R hl (F.os.snoc (x := .lst (a0a (digs s (w - 1) e0 ++ (a3k s (s ^ (w - 1)) t l e0).take j)))) (q6 := some (.r (l.length + 2))) (q7 := u') (v3 := some (.r (l.length + 1))) ha hlt (F.done (j + 1) om97 (om3 hj))
    rw [hb1] at tcall
    have hlast : (σ ++ [O.lst (a0a (digs s (w - 1) e0 ++ (a3k s (s ^ (w - 1)) t l e0).take j))])[l.length + 2]? = some (.lst (a0a (digs s (w - 1) e0 ++ (a3k s (s ^ (w - 1)) t l e0).take j))) := by
      erw [← F.len, List.getElem?_append_right (Nat.le_refl _), Nat.sub_self]; rfl
    refine TS.cons (TS1.asg (tcall.to ?_))
    refine TS.cons (TS1.ex (TE.append (i := 6) (j := l.length + 2) rfl ⟨_, hlast⟩ (TE.var (val := .d (.int (b : Int))) rfl ⟨.int (b : Int), _, rfl, hlast, ?_, ?_⟩)))
    . erw [a0b, List.length_append, a1g, List.length_take]; exact om98 hw4 hj hl
    . refine TS.asgV (tape := [.int (((ej * s + b) % s ^ (w - 1) : Nat) : Int)]) rfl ⟨a3v H.G.S R ej b, trivial⟩ (TS.nil ?_)
      show ∃ y' u', _ /\ _
      erw [hst.2]
      refine ⟨_, _, rfl, ?_⟩
      have es : ∀ c : List Nat, a0a c ++ [.int (b : Int)] = a0a (c ++ [b]) := fun c => by unfold a0a; erw [List.map_append]; rfl
      erw [← F.len, List.set_append_right (h := Nat.le_refl _), Nat.sub_self, List.take_add_one, hst.1, es, List.append_assoc]
      rfl
  . subst e1 e2
    refine TS.retV (tape := []) (cs := []) rfl trivial ?_
    show ownD _ (.r (l.length + 2)) = _
    unfold ownD
    erw [← F.len, List.getElem?_append_right (Nat.le_refl _), Nat.sub_self, ← hwl, List.take_length]
    rfl
end
end Mine
end
section
open PySem PyProof.Rows PySem.SeqAt
namespace Mine
section
variable {W : World0} {k : Nat} {Q : Out -> List (Option V) -> List O -> Prop}
variable {s w : Nat} {t l : List Nat}
theorem c5e {m i : Nat} {v : V} (h : ((List.range m).map fun (i : Nat) => V.d (.int ((m - 1 - i : Nat) : Int)))[i]? = some v) : i < m /\ v = .d (.int ((m - 1 - i : Nat) : Int)) := by
  rw [List.getElem?_map] at h
  obtain ⟨j, hj, rfl⟩ := Option.map_eq_some_iff.mp h
  obtain ⟨h1, h2⟩ := List.getElem?_eq_some_iff.mp hj
  rw [List.getElem_range] at h2
  rw [List.length_range] at h1
  exact ⟨h1, by erw [h2]⟩
noncomputable def a7b (m : Nat) : List O := List.replicate m (O.dI []) ++ [.lstV ((List.range m).map V.r)]
theorem a3b {m : Nat} : (a7b m).length = m + 1 := by unfold a7b; erw [List.length_append, List.length_replicate]; rfl
theorem b7e {m : Nat} {kvs : List (Int × D)} : (a7b m ++ [O.dI kvs])[m + 1]? = some (.dI kvs) := by erw [← a3b, List.getElem?_append_right (Nat.le_refl _), Nat.sub_self]; rfl
theorem b7f {m : Nat} {kvs : List (Int × D)} : (a7b m ++ [O.dI kvs])[m]? = some (.lstV ((List.range m).map V.r)) := by
  rw [List.getElem?_append_left (by rw [a3b]; exact Nat.lt_succ_self _)]
  unfold a7b
  erw [List.getElem?_append_right (by rw [List.length_replicate]; exact Nat.le_refl _), List.length_replicate, Nat.sub_self]; rfl
theorem c5f {m : Nat} {kvs kvs' : List (Int × D)} : (a7b m ++ [O.dI kvs]).set (m + 1) (.dI kvs') = a7b m ++ [O.dI kvs'] := by
  erw [← a3b, List.set_append_right (h := Nat.le_refl _), Nat.sub_self]; rfl
theorem fill0 {kvs : List (Int × D)} (dk : DK kvs fun e => e < s ^ (w - 1)) : Fill s w t l ((a7b l.length ++ [O.dI kvs]).set l.length (.lstV (b5f l.length))) (fun j => if j = l.length then kvs else []) 0 := by
  refine ⟨⟨?_, fun j hj => ?_⟩, by erw [List.length_set, List.length_append, a3b]; rfl, fun j h1 h2 => ?_, fun j h => if_neg (om99 h)⟩
  . rw [List.getElem?_set_self (by rw [List.length_append, a3b]; exact om100)]
  . erw [List.getElem?_set_ne (Ne.symm c6s)]
    unfold ixG
    by_cases h : j < l.length
    . erw [if_pos h, if_neg (om101 h), List.getElem?_append_left (by rw [a3b]; exact om59 h)]
      unfold a7b
      rw [List.getElem?_append_left (by rw [List.length_replicate]; exact h), List.getElem?_replicate, if_pos h]
    . erw [if_neg h, if_pos (om85 hj h)]; exact b7e
  . have : j = l.length := by exact om102 h2 h1
    subst this
    erw [if_pos rfl, List.drop_length]
    exact dk.cast fun e => ⟨fun h => ⟨h, rfl⟩, fun h => h.1⟩
theorem fullO (H : HasO W) (R : OkR s w t) (hl : l.length <= 1000) {σ : List O} {f : Nat -> List (Int × D)} (F : Fill s w t l σ f l.length) {x y : Option V} : TS W (k + 5) (F_origin_of.body.drop 7) (rO s w t l x y none none) σ (retQ (a0x s w t l)) := by
  have dk := F.done 0 om103 (Nat.zero_le _)
  rw [List.drop_zero] at dk
  have hN8 := R.n8
  have hlen : (f 0).length <= s ^ (w - 1) := dk.len fun e h => h.1
  have ts : TEv W (k + 5) (.sub (.var 2) (.int 0)) (rO s w t l x y none none) σ (.r (ixG l.length 0)) := TEv.sub (TE.var (val := .r l.length) rfl ⟨rfl, rfl⟩) (TE.int ⟨rfl, rfl⟩) (F.os.sub hl (Nat.zero_le _))
  have tl : TEv W (k + 5) (.prim "len" [.sub (.var 2) (.int 0)]) (rO s w t l x y none none) σ (.d (.int ((f 0).length : Int))) := TE.len H.B.R.ok (ts.to ⟨.dI (f 0), (f 0).length, b5g (F.os.dic 0 (Nat.zero_le _)), rfl, by exact om104 hlen hN8, rfl, rfl⟩)
  have tc := TCv.cmp tl (TEv.ev (e := .int 0) (tape := []) (cs := []) rfl trivial) (.eq (x := .int ((f 0).length : Int)) (y := .int 0) rfl rfl rfl rfl (Nat.zero_le _))
  by_cases hne : f 0 = []
  . refine TS.iteC tc (fun hb => TS.retV (tape := []) (cs := []) rfl trivial ?_) (fun hb => ?_)
    . show some D.none = some (a0x s w t l)
      unfold a0x
      erw [dk.empty hne]
    . rw [hne] at hb; exact dTF hb
  . refine TS.iteC tc (fun hb => ?_) (fun hb => TS.nil ?_)
    . have hb' : (((f 0).length : Int) == 0) = true := hb
      have := eq_of_beq hb'
      exact absurd (List.length_eq_zero_iff.mp (Int.ofNat.inj this)) hne
    . refine xEA (dk.least hne) fun e0 hf hle => ?_
      have hg := List.find?_some hf
      have h0 := List.mem_range.mp (List.mem_of_find?_eq_some hf)
      have eo : a0x s w t l = .lst (a0a (digs s (w - 1) e0 ++ a3k s (s ^ (w - 1)) t l e0)) := by unfold a0x; erw [hf]
      erw [eo]
      refine TS.cons (TS1.asg (TE.minD H.B.R.ok (ts.to ⟨f 0, b5g (F.os.dic 0 (Nat.zero_le _)), hne, ?_⟩)))
      erw [hle]
      have sp := b1e (k := k + 4) H.B.R.ok H.cells_of (s := s) (w := w - 1) (n := e0) (Nat.lt_of_lt_of_le (by decide) R.s2) R.s1000 (Nat.le_trans (Nat.sub_le _ _) R.w1000)
      rw [← a6i R.w1] at sp
      obtain ⟨_, _, G⟩ := sp
      refine TS.cons (TS1.asg (TE.callR H.cells_of (by intro h; exact dCN h) ((a8s (W := W) (k := k + 5) _ (tp := []) (cs := []) (cs' := []) rfl trivial).2.to ⟨[.d (.int s), .d (.int ((w : Int) - 1)), .d (.int e0)], _, .cons (.n rfl rfl) (.cons (.n rfl rfl) (.cons (.n rfl rfl) .nil)), G, fun r hr => ⟨_, hr, a2y _, ?_⟩⟩)))
      erw [F.len]
      exact forth (k := k + 1) H R hl F h0 hg
theorem a5m (H : HasO W) (R : OkR s w t) (hl : l.length <= 1000) (hs : ∀ x ∈ l, x < s) : Spec W (k + 6) "origin_of" [.d (a0k s w t), .a (.lst (a0a l))] (a0x s w t l) := by
  have hN8 := R.n8
  have many : Spec W (k + 5) "many_ends" [.d (a0k s w t)] (.int ((s ^ (w - 1) : Nat) : Int)) := a1m H.G.S R
  refine Spec.intro H.origin_of rfl (TS.exV (tape := [.none]) rfl ⟨a1b H.B.R R, trivial⟩ (TS.exV (tape := [.none]) rfl ⟨a1w H.B R hl hs (m := 0) (Nat.zero_le _), trivial⟩ ?_))
  refine TS.cons (TS1.asgCV (TI.seqV (tape := []) (cs := []) rfl trivial (a5b l) rfl (by erw [List.length_map]; exact a0s hl) ⟨fun j vals σc => vals = (List.range j).map V.r /\ σc = List.replicate j (.dI []), ⟨rfl, rfl⟩, fun j x vals σc hx ⟨e1, e2⟩ => ?_, fun vals σc ⟨e1, e2⟩ => ?_⟩))
  . subst e1 e2
    refine TE.dct0 (.dI []) (.inl rfl) ⟨?_, ?_⟩
    . erw [List.length_replicate, List.range_succ, List.map_append]; rfl
    . erw [List.replicate_succ']
  . rw [List.length_map, a0b] at e1 e2
    subst e1 e2
    erw [List.length_replicate]
    refine TS.cons (TS1.asg (TE.dct0 (.dI []) (.inl rfl) ?_))
    show TS W (k + 5) (F_origin_of.body.drop 4) (([some (.d (a0k s w t)), some (.a (.lst (a0a l))), some (.r l.length), none, none, none, none, none] : List (Option V)).set 3 (some (.r (a7b l.length).length))) (a7b l.length ++ [O.dI []]) (retQ (a0x s w t l))
    erw [a3b]
    refine TS.forR H.B.R.ok (m := s ^ (w - 1)) (tape := [.int ((s ^ (w - 1) : Nat) : Int)]) (cs := [_]) rfl ⟨many, trivial⟩ (om77 hN8)
      (fun n ρ σ => ∃ x kvs, ρ = rO s w t l x none none none /\ σ = a7b l.length ++ [O.dI kvs] /\ DK kvs fun e => e < n) ⟨none, [], rfl, rfl, DK.nil.cast fun n => ⟨fun h => h.elim, fun h => absurd h (Nat.not_lt_zero _)⟩⟩
      (fun n _ _ hn ⟨x, kvs, e1, e2, dk⟩ => ?_) (fun _ _ ⟨x, kvs, e1, e2, dk⟩ => ?_)
    . subst e1 e2
      refine TS.cons (TS1.asgS (TE.bool (TE.var (val := .r (l.length + 1)) rfl (TE.var (val := .d (.int (n : Int))) rfl ⟨_, .dI b7e rfl (Nat.le_trans (dk.len (N := s ^ (w - 1)) fun e h => Nat.lt_trans h hn) (om77 hN8)), ?_⟩))))
      exact TS.nil ⟨_, _, rfl, c5f, dk.upto _⟩
    . subst e1 e2
      refine TS.cons (TS1.ex (TE.appendV (i := 2) (j := l.length) rfl ⟨_, b7f⟩ (TE.var (val := .r (l.length + 1)) rfl ⟨_, b7f, by erw [List.length_map, List.length_range]; exact a1k hl, ?_⟩)))
      have ta := TEq.ev (W := W) (k := k + 5) (e := .bin .Sub (.prim "len" [(.var 1)]) (.int 1)) (ρ := rO s w t l x none none none) (σ := (a7b l.length ++ [O.dI kvs]).set l.length (.lstV (b5f l.length))) (tape := [.int ((a0a l).length : Int)]) (cs := [_]) rfl ⟨TEq.len H.B.R.ok (tape := []) (cs := []) rfl trivial rfl rfl (a0s hl), trivial⟩
      rw [a0b] at ta
      refine TS.cons (TS1.for1 (TI.down H.B.R.ok (m := l.length) ta (TEq.ev (tape := []) (cs := []) rfl trivial) (TEq.ev (tape := []) (cs := []) rfl trivial) hl ⟨fun i ρ σ => ∃ x y f, ρ = rO s w t l x y none none /\ Fill s w t l σ f i, ⟨x, none, _, rfl, fill0 dk⟩, fun i v ρ₁ σ₁ hv ⟨x, y, f, e1, F⟩ => ?_, fun ρ₁ σ₁ ⟨x, y, f, e1, F⟩ => ?_⟩))
      . subst e1
        obtain ⟨hi, rfl⟩ := c5e hv
        exact c1q (k := k + 1) (y := none) H R hl hi F fun x' σ' f' F' => ⟨x', _, f', rfl, F'⟩
      . subst e1
        rw [List.length_map, List.length_range] at F
        exact fullO H R hl F
end
end Mine
end
section
open PySem PyProof.Rows PySem.SeqAt
namespace Mine
section
variable {s N : Nat} {t : List Nat}
end
end Mine
end
section
open PySem PyProof.Rows PySem.SeqAt
namespace Mine
section
variable {W : World0} {k : Nat} {ρ : List (Option V)} {σ : List O}
variable {s w : Nat} {t p : List Nat}
theorem b3l (l : List Nat) : a0y (.lst (a0a l)) = true := a2f l
theorem c1r (l : List Nat) : dep (.lst (a0a l)) <= 200 := by show deps (a0a l) + 1 <= 200; erw [a7w]; decide
end
end Mine
end
section
open PySem PyProof.Rows
namespace Mine
noncomputable def a1l (s N : Nat) (t : List Nat) : List Nat -> Nat -> List (List Nat)
  | [], _ => [[]]
  | x :: p, e => (List.range s).flatMap fun a => if t[e * s + a]? == some x then (a1l s N t p ((e * s + a) % N)).map (a :: ·) else []
section
variable {s N w : Nat} {t : List Nat}
theorem a4q {α β : Type} (f : α -> List β) : ∀ l : List α, (l.flatMap f).head? = (l.find? fun a => !(f a).isEmpty).bind fun a => (f a).head?
  | [] => rfl
  | a :: l => by
    erw [List.flatMap_cons, List.find?_cons]
    cases e : f a with
    | nil => erw [List.nil_append, a4q f l]; rfl
    | cons b r => simp [e]
theorem a7x : ∀ (p : List Nat) (e : Nat), (!(a1l s N t p e).isEmpty) = a1z s N t p e
  | [], _ => rfl
  | x :: p, e => by
    show (!((List.range s).flatMap _).isEmpty) = (List.range s).any _
    rw [Bool.eq_iff_iff, Bool.not_eq_true', List.any_eq_true]
    constructor
    . intro h
      cases hl : (List.range s).flatMap fun a => if t[e * s + a]? == some x then (a1l s N t p ((e * s + a) % N)).map (a :: ·) else [] with
      | nil => rw [hl] at h; exact dTF h
      | cons q l =>
        have hq : q ∈ (List.range s).flatMap fun a => if t[e * s + a]? == some x then (a1l s N t p ((e * s + a) % N)).map (a :: ·) else [] := by erw [hl]; exact List.mem_cons_self
        refine xEA (List.mem_flatMap.mp hq) fun a ha h2 => ?_
        refine ⟨a, ha, ?_⟩
        cases hx : t[e * s + a]? == some x with
        | false => rw [hx] at h2; cases h2
        | true =>
          rw [hx, if_pos rfl] at h2
          refine xEA (List.mem_map.mp h2) fun r hr ζ => ?_
          erw [Bool.true_and, ← a7x p]
          cases hp : a1l s N t p ((e * s + a) % N) with
          | nil => rw [hp] at hr; cases hr
          | cons _ _ => rfl
    . rintro ⟨a, ha, h⟩
      rw [Bool.and_eq_true, ← a7x p] at h
      cases hp : a1l s N t p ((e * s + a) % N) with
      | nil => rw [hp] at h; exact absurd h.2 (by decide)
      | cons r l =>
        cases hl : (List.range s).flatMap fun a => if t[e * s + a]? == some x then (a1l s N t p ((e * s + a) % N)).map (a :: ·) else [] with
        | cons _ _ => rfl
        | nil =>
          have : (a :: r) ∈ (List.range s).flatMap fun a => if t[e * s + a]? == some x then (a1l s N t p ((e * s + a) % N)).map (a :: ·) else [] :=
            List.mem_flatMap.mpr ⟨a, ha, by erw [h.1, if_pos rfl, hp]; exact List.mem_cons_self⟩
          rw [hl] at this; cases this
theorem b0f : ∀ (p : List Nat) (e : Nat), a1z s N t p e = true -> (a1l s N t p e).head? = some (a3k s N t p e)
  | [], _, _ => rfl
  | x :: p, e, h => by
    refine b1q (a3y h) fun a h1 h2 h3 h4 => ?_
    show ((List.range s).flatMap _).head? = _
    erw [a4q]
    have ef : (fun a => !(if t[e * s + a]? == some x then (a1l s N t p ((e * s + a) % N)).map (a :: ·) else []).isEmpty) = fun a => t[e * s + a]? == some x && a1z s N t p ((e * s + a) % N) := by
      funext b
      erw [← a7x p]
      cases t[e * s + b]? == some x with
      | true => erw [if_pos rfl, Bool.true_and, List.isEmpty_map]
      | false => rfl
    erw [ef]
    erw [show (List.range s).find? (fun a => t[e * s + a]? == some x && a1z s N t p ((e * s + a) % N)) = some a from h1]
    show (if t[e * s + a]? == some x then (a1l s N t p ((e * s + a) % N)).map (a :: ·) else []).head? = _
    erw [h3, beq_self_eq_true, if_pos rfl, List.head?_map, b0f p _ h4]
    show some (a :: _) = some ((firstA s N t x p e).getD 0 :: a3k s N t p ((e * s + (firstA s N t x p e).getD 0) % N))
    erw [h1]; rfl
noncomputable def origL (s w : Nat) (t p : List Nat) : List (List Nat) := (List.range (s ^ (w - 1))).flatMap fun e => (a1l s (s ^ (w - 1)) t p e).map (digs s (w - 1) e ++ ·)
theorem a9a {p : List Nat} : a0x s w t p = match (origL s w t p).head? with
    | none => .none
    | some r => .lst (a0a r) := by
  unfold a0x origL
  erw [a4q]
  have ef : (fun e => !((a1l s (s ^ (w - 1)) t p e).map (digs s (w - 1) e ++ ·)).isEmpty) = a1z s (s ^ (w - 1)) t p := by
    funext e
    erw [List.isEmpty_map, a7x]
  erw [ef]
  cases hf : (List.range (s ^ (w - 1))).find? (a1z s (s ^ (w - 1)) t p) with
  | none => rfl
  | some e =>
    have hg := List.find?_some hf
    show _ = match ((a1l s (s ^ (w - 1)) t p e).map (digs s (w - 1) e ++ ·)).head? with | none => D.none | some r => .lst (a0a r)
    erw [List.head?_map, b0f p e hg]; rfl
end
end Mine
end
section
open PySem PyProof.Rows
namespace Mine
section
variable {s N w : Nat} {t : List Nat}
theorem a2i {α β : Type} {f g : α -> List β} : ∀ {l : List α}, (∀ a ∈ l, f a = g a) -> l.flatMap f = l.flatMap g
  | [], _ => rfl
  | a :: l, h => by erw [List.flatMap_cons, List.flatMap_cons, h a List.mem_cons_self, a2i fun b hb => h b (.tail _ hb)]
noncomputable def a1x (s : Nat) (l : List (List Nat)) : List (List Nat) := l.flatMap fun r => (List.range s).map fun a => r ++ [a]
noncomputable def a2r (s : Nat) : Nat -> List (List Nat)
  | 0 => [[]]
  | n + 1 => a1x s (a2r s n)
theorem b3m (s : Nat) : ∀ m : Nat, List.range (m * s) = (List.range m).flatMap fun e => (List.range s).map fun a => e * s + a
  | 0 => by erw [Nat.zero_mul]; rfl
  | m + 1 => by
    erw [Nat.succ_mul, List.range_add, b3m s m, List.range_succ, List.flatMap_append]
    congr 1
    simp
theorem c1s {n e a : Nat} (hs : 0 < s) (he : e < s ^ n) (ha : a < s) : digs s (n + 1) (e * s + a) = digs s n e ++ [a] := by
  have hl : ∀ x ∈ digs s n e ++ [a], x < s := fun x hx => by
    rcases List.mem_append.mp hx with hx | hx
    . exact a3i hs _ _ x hx
    . erw [List.mem_singleton.mp hx]; exact ha
  have h := b6v hs hl
  rw [a5d, a2s he, List.length_append, a1g] at h
  exact h
theorem b1i (hs : 0 < s) : ∀ n : Nat, a2r s n = (List.range (s ^ n)).map (digs s n)
  | 0 => rfl
  | n + 1 => by
    show a1x s (a2r s n) = _
    erw [b1i hs n, Nat.pow_succ, b3m, List.map_flatMap]
    unfold a1x
    erw [List.flatMap_map]
    refine a2i fun e he => ?_
    erw [List.map_map]
    refine List.map_congr_left fun a ha => ?_
    exact (c1s hs (List.mem_range.mp he) (List.mem_range.mp ha)).symm
noncomputable def a0u (s w : Nat) (t : List Nat) (l : List (List Nat)) (x : Nat) : List (List Nat) := l.flatMap fun r => ((List.range s).filter fun a => t.getD (a0o s ((r ++ [a]).drop (r.length + 1 - w))) 0 == x).map fun a => r ++ [a]
noncomputable def a2g (s w : Nat) (r : List Nat) : Nat := a0o s (r.drop (r.length - (w - 1)))
theorem b3n {r : List Nat} {a : Nat} (hw : 1 <= w) (hr : w - 1 <= r.length) : a0o s ((r ++ [a]).drop (r.length + 1 - w)) = a2g s w r * s + a := by
  have e : r.length + 1 - w = r.length - (w - 1) := by exact om105 hw
  erw [e, List.drop_append_of_le_length (Nat.sub_le _ _), a5d]; rfl
theorem b3o {r : List Nat} {a : Nat} (hw : 1 <= w) (hs : 0 < s) (hr : w - 1 <= r.length) (hl : ∀ c ∈ r, c < s) (ha : a < s) : a2g s w (r ++ [a]) = (a2g s w r * s + a) % s ^ (w - 1) := by
  have h1 : a2g s w (r ++ [a]) = a0o s ((r ++ [a]).drop (r.length + 1 - (w - 1))) := by unfold a2g; rw [List.length_append]; rfl
  have hl' : ∀ c ∈ r ++ [a], c < s := fun c hc => by
    rcases List.mem_append.mp hc with hc | hc
    . exact hl c hc
    . rw [List.mem_singleton.mp hc]; exact ha
  rw [h1, ← b3n hw hr]
  have hdr : (r ++ [a]).drop (r.length + 1 - (w - 1)) = ((r ++ [a]).drop (r.length + 1 - w)).drop 1 := by
    rw [List.drop_drop]
    by_cases h : w <= r.length + 1
    . congr 1; omega
    . rw [List.drop_of_length_le (by rw [List.length_append]; show r.length + 1 <= _; omega), List.drop_of_length_le (by rw [List.length_append]; show r.length + 1 <= _; omega)]
  have hlen : ((r ++ [a]).drop (r.length + 1 - w)).length = w := by rw [List.length_drop, List.length_append]; show r.length + 1 - (r.length + 1 - w) = w; omega
  rw [hdr]
  cases hd : (r ++ [a]).drop (r.length + 1 - w) with
  | nil => rw [hd] at hlen; have : w = 0 := hlen.symm; omega
  | cons y c =>
    have hc : c.length = w - 1 := by rw [hd] at hlen; have : c.length + 1 = w := hlen; omega
    have hsm : ∀ z ∈ c, z < s := fun z hz => hl' z (List.mem_of_mem_drop (hd ▸ List.mem_cons_of_mem _ hz))
    show a0o s c = _
    rw [a2t, hc, Nat.mul_comm, Nat.mul_add_mod, Nat.mod_eq_of_lt (by rw [← hc]; exact a2q hsm)]
theorem c9j {r : List Nat} (hr : w - 1 <= r.length) (hl : ∀ c ∈ r, c < s) : a2g s w r < s ^ (w - 1) := by
  have h : (r.drop (r.length - (w - 1))).length = w - 1 := by erw [List.length_drop]; exact om106 hr
  unfold a2g
  have := a2q (s := s) (l := r.drop (r.length - (w - 1))) fun x hx => hl x (List.mem_of_mem_drop hx)
  rw [h] at this
  exact this
set_option tactic.hygienic true in
theorem b3p (hw : 1 <= w) (hs : 0 < s) (ht : t.length = s ^ w) : ∀ (p : List Nat) (l : List (List Nat)), (∀ r ∈ l, w - 1 <= r.length /\ ∀ c ∈ r, c < s) ->
    p.foldl (a0u s w t) l = l.flatMap fun r => (a1l s (s ^ (w - 1)) t p (a2g s w r)).map (r ++ ·)
  | [], l, _ => by
    show l = l.flatMap fun r => [r ++ []]
    induction l with
    | nil => rfl
    | cons a l ih => erw [List.flatMap_cons, List.append_nil]; exact congrArg _ (ih fun r hr => by rename_i h; exact h r (.tail _ hr))
  | x :: p, l, h => by
    have h' : ∀ r ∈ a0u s w t l x, w - 1 <= r.length /\ ∀ c ∈ r, c < s := fun r hr => by
      refine xEA (List.mem_flatMap.mp hr) fun q hq h2 => ?_
      obtain ⟨a, ha, rfl⟩ := List.mem_map.mp h2
      obtain ⟨h3, h4⟩ := h q hq
      refine ⟨by erw [List.length_append]; exact om107 h3, fun c hc => ?_⟩
      rcases List.mem_append.mp hc with hc | hc
      . exact h4 c hc
      . erw [List.mem_singleton.mp hc]; exact List.mem_range.mp (List.mem_filter.mp ha).1
    erw [List.foldl_cons, b3p hw hs ht p _ h']
    unfold a0u
    erw [List.flatMap_assoc]
    refine a2i fun r hr => ?_
    refine xA (h r hr) fun h3 h4 => ?_
    have hlt := c9j (s := s) h3 h4
    show (List.map _ _).flatMap _ = ((List.range s).flatMap _).map _
    erw [List.flatMap_map, List.map_flatMap]
    have key : ∀ l : List Nat, (∀ a ∈ l, a < s) -> (l.filter fun a => t.getD (a0o s ((r ++ [a]).drop (r.length + 1 - w))) 0 == x).flatMap (fun a => (a1l s (s ^ (w - 1)) t p (a2g s w (r ++ [a]))).map (r ++ [a] ++ ·)) =
        l.flatMap fun a => (if t[a2g s w r * s + a]? == some x then (a1l s (s ^ (w - 1)) t p ((a2g s w r * s + a) % s ^ (w - 1))).map (a :: ·) else []).map (r ++ ·) := by
      intro l hl
      induction l with
      | nil => rfl
      | cons a l ih =>
        have ha := hl a List.mem_cons_self
        have hn : a2g s w r * s + a < t.length := by
          erw [ht]
          have e : s ^ w = s ^ (w - 1) * s := by erw [← Nat.pow_succ, Nat.succ_eq_add_one, Nat.sub_add_cancel hw]
          erw [e]
          calc a2g s w r * s + a < a2g s w r * s + s := by exact om108 ha
            _ = (a2g s w r + 1) * s := by erw [Nat.succ_mul]
            _ <= s ^ (w - 1) * s := Nat.mul_le_mul_right s hlt
        erw [List.filter_cons, List.flatMap_cons, b3n hw h3, ← ih fun b hb => hl b (.tail _ hb)]
        erw [List.getD_eq_getElem?_getD, List.getElem?_eq_getElem hn]
        have e1 : ((some t[a2g s w r * s + a]).getD 0 == x) = (t[a2g s w r * s + a] == x) := rfl
        have e2 : (some t[a2g s w r * s + a] == some x) = (t[a2g s w r * s + a] == x) := rfl
        erw [e1, e2]
        cases t[a2g s w r * s + a] == x with
        | false => rw [if_neg (by decide), if_neg (by decide)]; rfl
        | true =>
          erw [if_pos rfl, if_pos rfl, List.flatMap_cons, List.map_map, b3o hw hs h3 h4 ha]
          congr 1
          refine List.map_congr_left fun q ζ => ?_
          show r ++ [a] ++ q = r ++ (a :: q)
          erw [List.append_assoc]; rfl
    exact key _ fun a ha => List.mem_range.mp ha
theorem b5h (hw : 1 <= w) (hs : 0 < s) (ht : t.length = s ^ w) (p : List Nat) : p.foldl (a0u s w t) (a2r s (w - 1)) = origL s w t p := by
  rw [b3p hw hs ht, b1i hs, List.flatMap_map]
  . unfold origL
    refine a2i fun e he => ?_
    have : a2g s w (digs s (w - 1) e) = e := by
      unfold a2g
      erw [a1g, Nat.sub_self, List.drop_zero, a2s (List.mem_range.mp he)]
    erw [this]
  . intro r hr
    rw [b1i hs] at hr
    obtain ⟨e, _, rfl⟩ := List.mem_map.mp hr
    exact ⟨by erw [a1g]; exact Nat.le_refl _, a3i hs _ _⟩
end
end Mine
end
section
open PySem PyProof.Rows
namespace Mine
noncomputable def sumN (f : Nat -> Nat) : Nat -> Nat
  | 0 => 0
  | k + 1 => sumN f k + f k
theorem a5e (f : Nat -> Nat) : ∀ k, ((List.range k).map f).sum = sumN f k
  | 0 => rfl
  | k + 1 => by
    erw [List.range_succ, List.map_append, List.sum_append, a5e f k]
    show sumN f k + (f k + 0) = _
    rw [Nat.add_zero]; rfl
theorem a2u {f g : Nat -> Nat} : ∀ {k : Nat}, (∀ i, i < k -> f i = g i) -> sumN f k = sumN g k
  | 0, _ => rfl
  | k + 1, h => by
    show sumN f k + f k = sumN g k + g k
    erw [a2u fun i hi => h i (Nat.lt_succ_of_lt hi), h k (Nat.lt_succ_self k)]
theorem c1t (f : Nat -> Nat) (j d : Nat) : ∀ k, sumN (fun i => f i + if i = j then d else 0) k = sumN f k + if j < k then d else 0
  | 0 => rfl
  | k + 1 => by
    show sumN _ k + (f k + if k = j then d else 0) = sumN f k + f k + _
    erw [c1t f j d k]
    by_cases h : k = j
    . subst h
      erw [if_neg (Nat.lt_irrefl _), if_pos rfl, if_pos (Nat.lt_succ_self _)]; exact om109
    . erw [if_neg h]
      by_cases h2 : j < k
      . erw [if_pos h2, if_pos (Nat.lt_succ_of_lt h2)]; exact om110
      . erw [if_neg h2, if_neg (om111 h2 h)]; exact om112
section
variable {s N w : Nat} {t : List Nat}
noncomputable def cnt (s N : Nat) (t p : List Nat) (e : Nat) : Nat := (a1l s N t p e).length
noncomputable def wsum (N : Nat) (c : List Nat) (g : Nat -> Nat) : Nat := sumN (fun i => c.getD i 0 * g i) N
theorem c5g {l : List Nat} {g : Nat -> Nat} {j d : Nat} (hl : l.length = N) (hj : j < N) : wsum N (l.set j (l.getD j 0 + d)) g = wsum N l g + d * g j := by
  unfold wsum
  rw [a2u (g := fun i => l.getD i 0 * g i + if i = j then d * g j else 0) fun i hi => ?_, c1t, if_pos hj]
  erw [b7a (by rw [hl]; exact hj)]
  by_cases h : j = i
  . subst h
    erw [if_pos rfl, if_pos rfl, Nat.add_mul]
  . rw [if_neg h, if_neg fun e => h e.symm, Nat.add_zero]
noncomputable def outS (s N : Nat) (t : List Nat) (x e : Nat) (g : Nat -> Nat) (k : Nat) : Nat := sumN (fun a => if t[e * s + a]? = some x then g ((e * s + a) % N) else 0) k
theorem b3q {c l : List Nat} {x e : Nat} {g : Nat -> Nat} (hN : 0 < N) (hl : l.length = N) : ∀ k, wsum N (crow s N t x c e l k) g = wsum N l g + c.getD e 0 * outS s N t x e g k
  | 0 => by show _ = wsum N l g + c.getD e 0 * 0; erw [Nat.mul_zero]; rfl
  | k + 1 => by
    have ih := b3q (c := c) (x := x) (e := e) (g := g) hN hl k
    show wsum N (if t[e * s + k]? = some x then _ else _) g = _ + _ * (outS s N t x e g k + if t[e * s + k]? = some x then g ((e * s + k) % N) else 0)
    by_cases h : t[e * s + k]? = some x
    . erw [if_pos h, if_pos h, c5g (by rw [a5c, hl]) (Nat.mod_lt _ hN), ih, Nat.mul_add, Nat.add_assoc]
    . erw [if_neg h, if_neg h, ih, Nat.add_zero]
theorem b3r {c : List Nat} {x : Nat} {g : Nat -> Nat} (hN : 0 < N) : ∀ k, wsum N (ccol s N t x c k) g = sumN (fun e => c.getD e 0 * outS s N t x e g s) k
  | 0 => by
    show sumN (fun i => (List.replicate N 0).getD i 0 * g i) N = 0
    rw [a2u (g := fun ζ => 0) fun i hi => by
      erw [List.getD_eq_getElem?_getD, List.getElem?_replicate, if_pos hi]; exact Nat.zero_mul _]
    generalize N = m
    induction m with
    | zero => rfl
    | succ m ih => show sumN _ m + 0 = 0; erw [ih]
  | k + 1 => by
    show wsum N (crow s N t x c k (ccol s N t x c k) s) g = sumN _ k + _
    erw [b3q hN (a6m k), b3r hN k]
theorem c5h {x : Nat} {p : List Nat} {e : Nat} : cnt s N t (x :: p) e = outS s N t x e (cnt s N t p) s := by
  unfold cnt outS
  show ((List.range s).flatMap _).length = _
  erw [List.length_flatMap, a5e]
  refine a2u fun a ζ => ?_
  by_cases h : t[e * s + a]? = some x
  . erw [if_pos h, if_pos (beq_iff_eq.mpr h), List.length_map]
  . erw [if_neg h, if_neg fun h' => h (beq_iff_eq.mp h')]; rfl
theorem b3s (hN : 0 < N) : ∀ (p c : List Nat), wsum N (p.foldl (fun c x => ccol s N t x c N) c) (fun ζ => 1) = wsum N c (cnt s N t p)
  | [], c => rfl
  | x :: p, c => by
    erw [List.foldl_cons, b3s hN p, b3r hN]
    exact a2u fun e ζ => by erw [c5h]
theorem c5i : ∀ c : List Nat, wsum c.length c (fun ζ => 1) = c.sum := by
  intro c
  unfold wsum
  erw [← a5e]
  have : (List.range c.length).map (fun i => c.getD i 0 * 1) = c := by
    refine List.ext_getElem (by erw [List.length_map, List.length_range]) fun i h1 h2 => ?_
    erw [List.getElem_map, List.getElem_range, Nat.mul_one, List.getD_eq_getElem?_getD, List.getElem?_eq_getElem h2]; rfl
  erw [this]
theorem c5j (hs : 0 < s) (p : List Nat) : (cvec s (s ^ (w - 1)) t p).sum = (origL s w t p).length := by
  have hN : 0 < s ^ (w - 1) := Nat.pow_pos hs
  have h1 := c5i (cvec s (s ^ (w - 1)) t p)
  rw [b6x] at h1
  erw [← h1]
  unfold cvec
  erw [b3s hN]
  unfold origL wsum
  erw [List.length_flatMap, a5e]
  refine a2u fun e he => ?_
  erw [List.length_map, List.getD_eq_getElem?_getD, List.getElem?_replicate, if_pos he]
  exact Nat.one_mul _
end
end Mine
end
section
open PySem PyProof.Rows
namespace Mine
section
variable {s N w : Nat} {t : List Nat}
noncomputable def endP (s N : Nat) (e : Nat) (q : List Nat) : Nat := q.foldl (fun e a => (e * s + a) % N) e
theorem b5i : ∀ (p : List Nat) (e : Nat), ∀ q ∈ a1l s N t p e, q.length = p.length /\ ∀ a ∈ q, a < s
  | [], _, q, h => by
    erw [List.mem_singleton.mp h]; exact ⟨rfl, fun a ha => absurd ha List.not_mem_nil⟩
  | x :: p, e, q, h => by
    refine xEA (List.mem_flatMap.mp h) fun a ha h2 => ?_
    cases hx : t[e * s + a]? == some x with
    | false => rw [hx] at h2; cases h2
    | true =>
      rw [hx, if_pos rfl] at h2
      obtain ⟨r, hr, rfl⟩ := List.mem_map.mp h2
      obtain ⟨h3, h4⟩ := b5i p _ r hr
      refine ⟨congrArg Nat.succ h3, fun b hb => ?_⟩
      rcases List.mem_cons.mp hb with rfl | hb
      . exact List.mem_range.mp ha
      . exact h4 b hb
theorem b3t (hN : 0 < N) : ∀ (p ends : List Nat) (n : Nat), n ∈ p.foldl (a1n s N t) ends ↔ ∃ e ∈ ends, ∃ q ∈ a1l s N t p e, endP s N e q = n
  | [], ends, n => ⟨fun h => ⟨n, h, [], List.mem_singleton.mpr rfl, rfl⟩, fun ⟨e, he, q, hq, h⟩ => by
      rw [List.mem_singleton.mp hq] at h
      exact (show e = n from h) ▸ he⟩
  | x :: p, ends, n => by
    erw [List.foldl_cons, b3t hN p]
    constructor
    . rintro ⟨m, hm, q, hq, h⟩
      obtain ⟨e, he, a, ha, h1, h2⟩ := (a2e hN).mp hm
      refine ⟨e, he, a :: q, List.mem_flatMap.mpr ⟨a, List.mem_range.mpr ha, ?_⟩, ?_⟩
      . erw [h1, beq_self_eq_true, if_pos rfl, h2]; exact List.mem_map.mpr ⟨q, hq, rfl⟩
      . show endP s N ((e * s + a) % N) q = n
        erw [h2]; exact h
    . rintro ⟨e, he, q, hq, h⟩
      refine xEA (List.mem_flatMap.mp hq) fun a ha h2 => ?_
      cases hx : t[e * s + a]? == some x with
      | false => rw [hx] at h2; cases h2
      | true =>
        rw [hx, if_pos rfl] at h2
        obtain ⟨r, hr, rfl⟩ := List.mem_map.mp h2
        exact ⟨_, (a2e hN).mpr ⟨e, he, a, List.mem_range.mp ha, beq_iff_eq.mp hx, rfl⟩, r, hr, h⟩
theorem b3u (hw : 1 <= w) (hs : 0 < s) : ∀ (q r : List Nat), w - 1 <= r.length -> (∀ c ∈ r, c < s) -> (∀ a ∈ q, a < s) -> a2g s w (r ++ q) = endP s (s ^ (w - 1)) (a2g s w r) q
  | [], r, _, _, _ => by erw [List.append_nil]; rfl
  | a :: q, r, hr, hl, hq => by
    have ha := hq a List.mem_cons_self
    have e : r ++ a :: q = (r ++ [a]) ++ q := by erw [List.append_assoc]; rfl
    erw [e, b3u hw hs q (r ++ [a]) (by erw [List.length_append]; exact om107 hr) (fun c hc => by
      rcases List.mem_append.mp hc with hc | hc
      . exact hl c hc
      . erw [List.mem_singleton.mp hc]; exact ha) (fun b hb => hq b (.tail _ hb)), b3o hw hs hr hl ha]
    rfl
theorem b1j {p r : List Nat} (hs : 0 < s) (h : r ∈ origL s w t p) : r.length = w - 1 + p.length /\ ∀ c ∈ r, c < s := by
  refine xEA (List.mem_flatMap.mp h) fun e he h2 => ?_
  obtain ⟨q, hq, rfl⟩ := List.mem_map.mp h2
  obtain ⟨h3, h4⟩ := b5i p e q hq
  refine ⟨by erw [List.length_append, a1g, h3], fun c hc => ?_⟩
  rcases List.mem_append.mp hc with hc | hc
  . exact a3i hs _ _ c hc
  . exact h4 c hc
theorem c1u (hw : 1 <= w) (hs : 0 < s) (p : List Nat) (n : Nat) : n ∈ reach s (s ^ (w - 1)) t p ↔ ∃ r ∈ origL s w t p, a0o s (r.drop p.length) = n := by
  have hN : 0 < s ^ (w - 1) := Nat.pow_pos hs
  unfold reach
  rw [b3t hN]
  have key : ∀ e, e < s ^ (w - 1) -> ∀ q, q ∈ a1l s (s ^ (w - 1)) t p e -> a0o s ((digs s (w - 1) e ++ q).drop p.length) = endP s (s ^ (w - 1)) e q := fun e he q hq => by
    obtain ⟨h3, h4⟩ := b5i p e q hq
    have hl := b3u hw hs q (digs s (w - 1) e) (by erw [a1g]; exact Nat.le_refl _) (a3i hs _ _) h4
    have hd : a2g s w (digs s (w - 1) e) = e := by
      unfold a2g
      erw [a1g, Nat.sub_self, List.drop_zero, a2s he]
    rw [hd] at hl
    erw [← hl]
    unfold a2g
    erw [List.length_append, a1g, h3, Nat.add_sub_cancel_left]
  constructor
  . rintro ⟨e, he, q, hq, h⟩
    have he' := List.mem_range.mp he
    exact ⟨_, List.mem_flatMap.mpr ⟨e, he, List.mem_map.mpr ⟨q, hq, rfl⟩⟩, by erw [key e he' q hq, h]⟩
  . rintro ⟨r, hr, h⟩
    refine xEA (List.mem_flatMap.mp hr) fun e he h2 => ?_
    obtain ⟨q, hq, rfl⟩ := List.mem_map.mp h2
    exact ⟨e, he, q, hq, by erw [← key e (List.mem_range.mp he) q hq]; exact h⟩
end
end Mine
end
section
open PySem PyProof.Rows
namespace Mine
noncomputable def lexB : List Nat -> List Nat -> Bool
  | [], [] => false
  | [], _ :: _ => true
  | _ :: _, [] => false
  | a :: l, b :: m => if a = b then lexB l m else decide (a < b)
section
variable {s N w : Nat} {t : List Nat}
theorem b7g : ∀ {l m : List Nat}, lexB l m = true -> lexB m l = false
  | [], [], h => by exact dFT h
  | [], _ :: _, _ => rfl
  | _ :: _, [], h => by exact dFT h
  | a :: l, b :: m, h => by
    have h : (if a = b then lexB l m else decide (a < b)) = true := h
    show (if b = a then lexB m l else decide (b < a)) = false
    by_cases e : a = b
    . subst e
      rw [if_pos rfl] at h ⊢
      exact b7g h
    . rw [if_neg e] at h
      rw [if_neg fun h' => e h'.symm]
      have := of_decide_eq_true h
      exact decide_eq_false (om113 this)
theorem c6t {a b : Nat} {l m : List Nat} (h : a < b) : lexB (a :: l) (b :: m) = true := by
  show (if a = b then _ else _) = true
  rw [if_neg (om101 h)]
  exact decide_eq_true h
theorem b1k {a : Nat} {l m : List Nat} : lexB (a :: l) (a :: m) = lexB l m := by
  show (if a = a then _ else _) = _
  erw [if_pos rfl]
theorem c1v : ∀ {c l m : List Nat}, lexB (c ++ l) (c ++ m) = lexB l m
  | [], l, m => rfl
  | a :: c, l, m => by erw [List.cons_append, List.cons_append, b1k]; exact c1v
theorem c1w : ∀ {c d l m : List Nat}, c.length = d.length -> (∀ x ∈ c, x < s) -> (∀ x ∈ d, x < s) -> a0o s c < a0o s d -> lexB (c ++ l) (d ++ m) = true
  | [], [], l, m, _, _, _, h => absurd h (Nat.lt_irrefl _)
  | [], _ :: _, l, m, h, _, _, _ => by cases h
  | _ :: _, [], l, m, h, _, _, _ => by cases h
  | a :: c, b :: d, l, m, h, h1, h2, h3 => by
    have hl : c.length = d.length := Nat.succ.inj h
    rw [a2t, a2t, hl] at h3
    have k1 := a2q (s := s) (l := c) fun x hx => h1 x (.tail _ hx)
    have k2 := a2q (s := s) (l := d) fun x hx => h2 x (.tail _ hx)
    erw [List.cons_append, List.cons_append]
    rcases Nat.lt_trichotomy a b with e | e | e
    . exact c6t e
    . subst e
      erw [b1k]
      exact c1w hl (fun x hx => h1 x (.tail _ hx)) (fun x hx => h2 x (.tail _ hx)) (om114 h3)
    . exfalso
      have : (b + 1) * s ^ d.length <= a * s ^ d.length := Nat.mul_le_mul_right _ e
      rw [Nat.succ_mul] at this
      omega
theorem b3v : ∀ (p : List Nat) (e : Nat), (a1l s N t p e).Pairwise fun a b => lexB a b = true
  | [], _ => List.pairwise_singleton _ _
  | x :: p, e => by
    show ((List.range s).flatMap _).Pairwise _
    rw [List.pairwise_flatMap]
    refine ⟨fun a ζ => ?_, ?_⟩
    . cases t[e * s + a]? == some x with
      | false => exact .nil
      | true =>
        erw [if_pos rfl, List.pairwise_map]
        exact (b3v p _).imp fun h => by erw [b1k]; exact h
    . refine List.pairwise_lt_range.imp fun {a b} hab u hu v hv => ?_
      have hd : ∀ {a : Nat} {u : List Nat}, u ∈ (if (t[e * s + a]? == some x) = true then (a1l s N t p ((e * s + a) % N)).map (a :: ·) else []) -> ∃ r, u = a :: r := fun {a u} h => by
        cases hx : t[e * s + a]? == some x with
        | false => rw [hx] at h; cases h
        | true =>
          rw [hx, if_pos rfl] at h
          obtain ⟨r, _, rfl⟩ := List.mem_map.mp h
          exact ⟨r, rfl⟩
      obtain ⟨r, rfl⟩ := hd hu
      obtain ⟨r', rfl⟩ := hd hv
      exact c6t hab
theorem c5k (hs : 0 < s) (p : List Nat) : (origL s w t p).Pairwise fun a b => lexB a b = true := by
  unfold origL
  rw [List.pairwise_flatMap]
  refine ⟨fun e ζ => ?_, ?_⟩
  . rw [List.pairwise_map]
    exact (b3v p e).imp fun h => by erw [c1v]; exact h
  . have hr : (List.range (s ^ (w - 1))).Pairwise fun a b => a < b /\ b < s ^ (w - 1) := by
      refine List.Pairwise.imp_of_mem (fun {a b} ha hb h => ⟨h, List.mem_range.mp hb⟩) List.pairwise_lt_range
    refine hr.imp fun {a b} hab u hu v hv => ?_
    obtain ⟨q, _, rfl⟩ := List.mem_map.mp hu
    obtain ⟨q', _, rfl⟩ := List.mem_map.mp hv
    exact c1w (s := s) (by erw [a1g, a1g]) (a3i hs _ _) (a3i hs _ _) (by erw [a2s (Nat.lt_trans hab.1 hab.2), a2s hab.2]; exact hab.1)
theorem b8a (hs : 0 < s) {p h : List Nat} {l : List (List Nat)} (e : origL s w t p = h :: l) : ∀ r ∈ l, lexB r h = false := fun r hr => by
  have := c5k (w := w) (t := t) hs p
  rw [e] at this
  exact b7g (List.rel_of_pairwise_cons this hr)
end
end Mine
end
section
open PySem PyProof.Rows PySem.SeqAt
namespace Mine
noncomputable def ltZ : List Int -> List Int -> Bool
  | [], [] => false
  | [], _ :: _ => true
  | _ :: _, [] => false
  | a :: l, b :: m => if a == b then ltZ l m else decide (a < b)
theorem c1x {vs : List Value} {ks : List Int} (h : IntsAre vs ks) : ∀ {i : Nat} (hi : i < ks.length), ∃ t, vs[i]? = some (.int ks[i] t) := by
  induction h with
  | nil => exact fun h => nomatch h
  | cons n t _ ih =>
    intro i hi
    cases i with
    | zero => exact ⟨t, rfl⟩
    | succ i => exact ih (Nat.lt_of_succ_lt_succ hi)
theorem c9k (l b : Addr) (vs us : List Value) (n n2 : Nat) (ks ms : List Int) (hv : IntsAre vs ks) (hu : IntsAre us ms) (hsz : ks.length = ms.length) (k : Nat) :
    ∀ i : Nat, ks.length - i = k -> Meets (Builtin.«list.__eq__.loop» ⟨[.ref l, .ref b, rawInt i, rawInt 0], []⟩)
      (fun A R s => s.heap.get? l = some (LO vs n) /\ s.heap.get? b = some (LO us n2) /\ R (.ok (.ret (.bool (ltZ (ks.drop i) (ms.drop i))))) s) := by
  have e1 := hv.length
  have e2 := hu.length
  induction k with
  | zero =>
    intro i hk prog w A R s h
    obtain ⟨hp, g, d, tk, os⟩ := s; refine xAA h fun hl hb h => ?_
    wp_walk using wpAny_loadPart' hl, wpAny_loadPart' hb
    have hi1 : vs.toArray[((i : Nat) : Int).toNat]? = none := by simp; exact om115 e1 hk
    have hi2 : us.toArray[((i : Nat) : Int).toNat]? = none := by simp; exact om116 e2 hk hsz
    rw [List.drop_of_length_le (om117 hk), List.drop_of_length_le (om118 hk hsz)] at h
    erw [hi1, hi2]
    wp_walk using wpAny_loadPart' hl, wpAny_loadPart' hb
    show R (.ok (.ret (.bool (decide (vs.toArray.size < us.toArray.size))))) _
    erw [show decide (vs.toArray.size < us.toArray.size) = false from decide_eq_false (by simp; exact om119 e2 e1 hsz)]
    exact h
  | succ k ih =>
    intro i hk prog w A R s h
    obtain ⟨hp, g, d, tk, os⟩ := s; refine xAA h fun hl hb h => ?_
    wp_walk using wpAny_loadPart' hl, wpAny_loadPart' hb
    have hlt : i < ks.length := by exact om50 hk
    have hlt2 : i < ms.length := by exact om52 hlt hsz
    refine xE (c1x hv hlt) fun t ht => ?_
    refine xE (c1x hu hlt2) fun u hu' => ?_
    have hi1 : vs.toArray[((i : Nat) : Int).toNat]? = some (.int ks[i] t) := by simpa using ht
    have hi2 : us.toArray[((i : Nat) : Int).toNat]? = some (.int ms[i] u) := by simpa using hu'
    have hc : ((i : Int) + 1) = ((i + 1 : Nat) : Int) := by push_cast; rfl
    rw [List.drop_eq_getElem_cons hlt, List.drop_eq_getElem_cons hlt2] at h
    erw [hi1, hi2]
    refine wpAny_bind (EqAt.int_int ks[i] t ms[i] u prog w _ _ ?_)
    have h : R (.ok (.ret (.bool (if (ks[i] == ms[i]) = true then ltZ (ks.drop (i + 1)) (ms.drop (i + 1)) else decide (ks[i] < ms[i]))))) _ := h
    cases hb' : ks[i] == ms[i] with
    | true =>
      rw [hb', if_pos rfl] at h
      wp_walk
      erw [hc]
      exact ⟨plainId_quiet MeetsSeq3.plain_eq_loop _, codeAny_builtin MeetsSeq3.entry_eq_loop (by
        erw [Around.under_plainId MeetsSeq3.plain_eq_loop _]
        exact ih (i + 1) (om51 hk) prog w A R _ ⟨hl, hb, h⟩)⟩
    | false =>
      rw [hb', if_neg (by decide)] at h
      wp_walk using wpAny_loadPart' hl, wpAny_loadPart' hb
      erw [hi1, hi2]
      refine wpAny_bind (richCompare_gives (op := .Lt) (typeIs_int _ _ t) (typeIs_int _ _ u) PySem.F.slot_int_lt PySem.F.entry_int_lt (PySem.F.args_int_lt_2 _ _) (gives_int_lt _ _ t u) (fun x => nomatch x) ?_)
      exact wpAny_pure h
theorem c9l (l b : Addr) (vs us : List Value) (n n2 : Nat) (ks ms : List Int) (hv : IntsAre vs ks) (hu : IntsAre us ms) (hsz : ks.length = ms.length) :
    Meets (Builtin.«list.__lt__» ⟨[.ref l, .ref b], []⟩) (fun A R s => s.heap.get? l = some (LO vs n) /\ s.heap.get? b = some (LO us n2) /\ R (.ok (.ret (.bool (ltZ ks ms)))) s) := by
  intro prog w A R s h
  obtain ⟨hp, g, d, tk, os⟩ := s; refine xAA h fun hl hb h => ?_
  have f3 := AutoSeq1.sub_list_list
  have hl' : hp.get? l = some ({ cls := .type "list", dict := none, data := .seq vs.toArray n, slots := #[] } : Obj) := hl
  have hb' : hp.get? b = some ({ cls := .type "list", dict := none, data := .seq us.toArray n2, slots := #[] } : Obj) := hb
  clear hl hb
  wp_walk using wpAny_loadPart' hl', wpAny_loadPart' hb'
  exact ⟨plainId_quiet MeetsSeq3.plain_eq_loop _, codeAny_builtin MeetsSeq3.entry_eq_loop (by
    erw [Around.under_plainId MeetsSeq3.plain_eq_loop _]
    exact c9k l b vs us n n2 ks ms hv hu hsz _ 0 rfl prog w A R _ ⟨hl', hb', by simpa using h⟩)⟩
theorem rc_lt {prog : Program} {w : World} {A : Around} {E : Value -> Shared -> Prop} {s : Shared} {l b : Addr} {vs us : List Value} {n n2 : Nat} {ks ms : List Int} {Q : Value -> Shared -> Prop} (hl : s.heap.get? l = some (LO vs n)) (hb : s.heap.get? b = some (LO us n2)) (hv : IntsAre vs ks) (hu : IntsAre us ms) (hsz : ks.length = ms.length) (hc : A.units < cLine)
    (h : Q (.bool (ltZ ks ms)) s) : wpAny (model prog w) A (richCompare .Lt (.ref l) (.ref b)) Q E s :=
  richCompare_meets_room (op := .Lt) ⟨_, hl, rfl⟩ ⟨_, hb, rfl⟩ PySem.F.slot_list_lt PySem.F.entry_list_lt (PySem.F.args_list_lt_2 _ _) (c9l l b vs us n n2 ks ms hv hu hsz)
    ⟨hl, hb, show Value.bool (ltZ ks ms) ≠ Value.notImplemented /\ Q (.bool (ltZ ks ms)) s from ⟨(fun x => nomatch x), h⟩⟩ hc
end Mine
end
section
open PySem PyProof.Rows PySem.SeqAt
namespace Mine
section
variable {prog : Program} {w : World} {A : Around} {R : Result -> Shared -> Prop} {I : Addr} {fp wr : List Addr} {n : Nat} {P : Nat -> Value -> Prop} {St : Nat -> Heap -> Prop}
theorem c5l (W : Walks prog w A.in1 I fp wr n P St) (S : Addr) (hSf : S ∉ fp) (K : Heap -> Prop) (hK : ∀ h h', K h -> (∀ b o, b ∉ wr -> b ≠ S -> h.get? b = some o -> h'.get? b = some o) -> K h') (vb : Value)
    (hcmp : ∀ i v (s : Shared) (Q : Value -> Shared -> Prop) (E : Value -> Shared -> Prop), 0 < i -> P i v -> K s.heap -> Q (.bool false) s -> wpAny (model prog w) A.in1 (richCompare .Lt v vb) Q E s) :
    ∀ (k j : Nat) (s : Shared) (c : Nat), n - (j + 1) = k -> j + 1 <= n -> St (j + 1) s.heap -> K s.heap ->
    s.heap.get? S = some { cls := .type "list", dict := none, data := .seq #[vb, vb] c, slots := #[] } ->
    (∀ h' tk, (∀ b o, b ∉ wr -> b ≠ S -> s.heap.get? b = some o -> h'.get? b = some o) -> R (.ok (.ret vb)) { s with heap := h', toks := tk }) ->
    codeAny (model prog w) A (.builtin "min.loop" ⟨[.ref I, .none, .ref S], []⟩) R s := by
  have hSw : S ∉ wr := fun h => hSf (W.sub _ h)
  have hname : (toString "min" ++ toString ".loop" : String) = "min.loop" := by decide
  intro k
  induction k with
  | zero =>
    intro j s c hk hj hst hKs hS hR
    have hin : j + 1 = n := by exact om120 hj hk
    refine codeAny_builtin PySem.F.entry_min_loop ?_
    erw [Around.under_plainId PySem.F.plain_min_loop _]
    show wpAny _ A.in1 (seqItems? (.ref S) >>= _) _ _ s
    refine wpAny_bind (wpAny_seqItems hS rfl ?_)
    show wpAny _ A.in1 (tryCatch (pyNext (.ref I)) _ >>= _) _ _ s
    refine wpAny_bind (wpAny_tryCatch (W.done s _ _ (hin ▸ hst) fun h' tk hk' => ?_))
    have hS' := hk' S _ hSw hS
    show wpAny _ A.in1 (updateSeq S (fun ζ => #[]) >>= _) _ _ _
    refine wpAny_bind ?_
    refine wpAny_updateSeq hS' rfl (wpAny_bind (wpAny_letGo (wpAny_pure ?_)))
    exact hR _ tk fun b o hbw hbS e => (Heap.get?_update_other _ _ (Ne.symm hbS)).trans (hk' b o hbw e)
  | succ k ih =>
    intro j s c hk hj hst hKs hS hR
    have hlt : j + 1 < n := by exact om121 hk
    refine codeAny_builtin PySem.F.entry_min_loop ?_
    erw [Around.under_plainId PySem.F.plain_min_loop _]
    show wpAny _ A.in1 (seqItems? (.ref S) >>= _) _ _ s
    refine wpAny_bind (wpAny_seqItems hS rfl ?_)
    show wpAny _ A.in1 (tryCatch (pyNext (.ref I)) _ >>= _) _ _ s
    refine wpAny_bind (wpAny_tryCatch (W.item (j + 1) s _ _ hlt hst fun v h' tk hP hst' hk' => ?_))
    have hS' := hk' S _ hSw hS
    have hK' : K h' := hK _ _ hKs fun b o hbw ζ e => hk' b o hbw e
    show wpAny _ A.in1 (tryCatch (holding [v, v] (richCompare .Lt v vb >>= _)) _ >>= _) _ _ _
    refine wpAny_bind (wpAny_tryCatch (wpAny_holding (wpAny_bind (hcmp (j + 1) v _ _ _ (Nat.succ_pos _) hP hK' ?_))))
    refine wpAny_bind (wpAny_holding (wpAny_truthy_bool ?_))
    refine wpAny_bind (wpAny_letGo (wpAny_pure ?_))
    simp only [Bool.false_eq_true, if_false]
    refine wpAny_bind (wpAny_letGo ?_)
    erw [hname]
    refine wpAny_pure ⟨plainId_quiet PySem.F.plain_min_loop _, ih (j + 1) _ c (om122 hk) hlt hst' hK' hS' fun h'' tk'' hk'' => ?_⟩
    exact hR h'' tk'' fun b o hbw hbS e => hk'' b o hbw hbS (hk' b o hbw e)
theorem c1y (W : Walks prog w A.in1 I fp wr n P St) (S : Addr) (hSf : S ∉ fp) (K : Heap -> Prop) (hK : ∀ h h', K h -> (∀ b o, b ∉ wr -> b ≠ S -> h.get? b = some o -> h'.get? b = some o) -> K h') (hn : 0 < n)
    (hcmp : ∀ vb, P 0 vb -> ∀ i v (s : Shared) (Q : Value -> Shared -> Prop) (E : Value -> Shared -> Prop), 0 < i -> P i v -> K s.heap -> Q (.bool false) s -> wpAny (model prog w) A.in1 (richCompare .Lt v vb) Q E s) {s : Shared} {c : Nat} (hst : St 0 s.heap) (hKs : K s.heap)
    (hS : s.heap.get? S = some { cls := .type "list", dict := none, data := .seq #[] c, slots := #[] })
    (hR : ∀ vb h' tk, P 0 vb -> (∀ b o, b ∉ wr -> b ≠ S -> s.heap.get? b = some o -> h'.get? b = some o) -> R (.ok (.ret vb)) { s with heap := h', toks := tk }) :
    codeAny (model prog w) A (.builtin "min.loop" ⟨[.ref I, .none, .ref S], []⟩) R s := by
  have hSw : S ∉ wr := fun h => hSf (W.sub _ h)
  have hname : (toString "min" ++ toString ".loop" : String) = "min.loop" := by decide
  refine codeAny_builtin PySem.F.entry_min_loop ?_
  erw [Around.under_plainId PySem.F.plain_min_loop _]
  show wpAny _ A.in1 (seqItems? (.ref S) >>= _) _ _ s
  refine wpAny_bind (wpAny_seqItems hS rfl ?_)
  show wpAny _ A.in1 (tryCatch (pyNext (.ref I)) _ >>= _) _ _ s
  refine wpAny_bind (wpAny_tryCatch (W.item 0 s _ _ hn hst fun v h' tk hP hst' hk' => ?_))
  have hS' := hk' S _ hSw hS
  show wpAny _ A.in1 (updateSeq S (fun ζ => #[v, v]) >>= _) _ _ _
  refine wpAny_bind ?_
  refine wpAny_updateSeq hS' rfl ?_
  erw [hname]
  have up : ∀ b o, b ∉ wr -> b ≠ S -> s.heap.get? b = some o -> (h'.update S (Obj.mapSeq fun ζ => #[v, v])).get? b = some o := fun b o hbw hbS e => (Heap.get?_update_other _ _ (Ne.symm hbS)).trans (hk' b o hbw e)
  refine wpAny_pure ⟨plainId_quiet PySem.F.plain_min_loop _, c5l W S hSf K hK v (hcmp v hP) _ 0 _ _ rfl hn (W.frame _ _ _ hst' fun b hbf o e => ?_) (hK _ _ hKs up) (Heap.get?_update_self _ hS' rfl) fun h'' tk'' hk'' => ?_⟩
  . exact (Heap.get?_update_other _ _ (fun h : S = b => hSf (by erw [h]; exact hbf))).trans e
  . exact hR v h'' tk'' hP fun b o hbw hbS e => hk'' b o hbw hbS (up b o hbw hbS e)
end
section
variable {W : World0} {k : Nat} {A : Around} {s : Shared} {F : Addr -> Prop}
noncomputable def b8b (rows : List (List Int)) : List D := rows.map fun r => .lst (r.map .int)
noncomputable def c1z (s : Shared) (vs : List Value) (rows : List (List Int)) (h : Heap) : Prop := ∀ (i : Nat) (v : Value), vs[i]? = some v -> ∃ b ws n r, v = .ref b /\ h.get? b = some (LO ws n) /\ rows[i]? = some r /\ IntsAre ws r /\ b < s.heap.objs.size
theorem c2a {vs : List Value} {rows : List (List Int)} (r : DRels W.gl s.heap F vs (b8b rows)) : c1z s vs rows s.heap := by
  induction rows generalizing vs with
  | nil => cases r; exact fun i v h => nomatch h
  | cons x rows ih =>
    cases r with
    | cons a b =>
      intro i v h
      cases i with
      | zero =>
        obtain rfl := a0q h
        obtain ⟨a, us, n, rfl, h1, _, h2⟩ := a.lstI
        exact ⟨_, _, _, x, rfl, h1, rfl, a2x h2, Heap.lt_size h1⟩
      | succ i => exact ih b i v h
set_option tactic.hygienic true in
theorem c2b {v : Value} {r0 : List Int} {rest : List (List Int)} (hr : Room A k) (hlen : ∀ r ∈ rest, r.length = r0.length) (hmin : ∀ r ∈ rest, ltZ r r0 = false) (r : DRel W.gl s.heap F v (.lst (b8b (r0 :: rest)))) : Gives W A (PySem.call (.builtin "min") [v]) s F (.lst (r0.map .int)) := by
  cases r with
  | lst h1 _ h2 =>
    rename_i a vs m _
    intro L hL Q E q
    have hrows := c2a h2
    have hvl : vs.length = rest.length + 1 := by erw [h2.length]; show (b8b _).length = _; unfold b8b; erw [List.length_map]; rfl
    have hname : (toString "min" ++ toString ".loop" : String) = "min.loop" := by decide
    have hne : a ≠ s.heap.objs.size := fun h => by rw [h, a0l] at h1; exact dNS h1
    refine call_function_tree PySem.F.kind_min PySem.F.plain_min PySem.F.entry_min (PySem.F.args_min1 _) ?_
    show wpAny _ A.in1 (Builtin.Builtins.bindParams "min" ["key", "default"] 0 ⟨[], []⟩ >>= _) _ _ s
    refine wpAny_bind (wpAny_of_eq (show Builtin.Builtins.bindParams "min" ["key", "default"] 0 ⟨[], []⟩ = pure [none, none] from rfl) ?_)
    refine wpAny_bind (wpAny_pure ?_)
    refine wpAny_bind (wpAny_pyIter_list (a0c h1) ?_)
    refine wpAny_bind (wpAny_newObj_type ?_)
    erw [hname]
    have hd0 : ∀ vb, vs[0]? = some vb -> DRel W.gl s.heap F vb (.lst (r0.map .int)) := fun vb h => by
      cases h2 with
      | cons a b => cases h; exact a
    have key : ∀ (vb : Value), vs.toArray[0]? = some vb -> ∀ (i : Nat) (v : Value) (s' : Shared) (Q : Value -> Shared -> Prop) (E : Value -> Shared -> Prop), 0 < i -> vs.toArray[i]? = some v -> c1z s vs (r0 :: rest) s'.heap -> Q (.bool false) s' -> wpAny (model W.p W.w) A.in1 (richCompare .Lt v vb) Q E s' := by
      intro vb hb i v s' Q E hi hv K hQ
      obtain ⟨b1, ws1, n1, r1, rfl, g1, e1, i1, _⟩ := K i v (by simpa using hv)
      obtain ⟨b2, ws2, n2, r2, rfl, g2, e2, i2, _⟩ := K 0 vb (by simpa using hb)
      cases e2
      have hm : r1 ∈ rest := by
        cases i with
        | zero => cases hi
        | succ i => exact List.mem_of_getElem? e1
      exact rc_lt g1 g2 i1 i2 (hlen r1 hm) hr.in1 (by erw [hmin r1 hm]; exact hQ)
    have hsz : (s.heap.push { cls := .type "list_iterator", data := .fields #[.ref a, .int 0 0] }).objs.size = s.heap.objs.size + 1 := Heap.size_push _ _
    have nb : ∀ b, b < s.heap.objs.size -> b ∉ [s.heap.objs.size] /\ b ≠ (s.heap.push { cls := .type "list_iterator", data := .fields #[.ref a, .int 0 0] }).objs.size := fun b hb => ⟨fun h => by rw [List.mem_singleton.mp h] at hb; exact Nat.lt_irrefl _ hb, fun h => by rw [h, hsz] at hb; exact absurd hb om123⟩
    refine wpAny_pure ⟨plainId_quiet PySem.F.plain_min_loop _, c1y (Walks.list (A := A.in1) hr.1 s.heap.objs.size a hne vs.toArray) (s.heap.push { cls := .type "list_iterator", data := .fields #[.ref a, .int 0 0] }).objs.size ?_ (c1z s vs (r0 :: rest)) (fun h h' K hk i v hv => ?_) (by simp; exact om54 hvl) key
      ⟨⟨_, Heap.get?_push_of_some _ (Heap.get?_push_size _ rfl), rfl, rfl⟩, a0c (Heap.get?_push_of_some _ (Heap.get?_push_of_some _ h1))⟩ (fun i v hv => ?_) (Heap.get?_push_size _ rfl) fun vb h' tk hP hk => ?_⟩
    . intro hm
      simp only [List.mem_cons, List.not_mem_nil, or_false] at hm
      have := Heap.lt_size h1
      rw [hsz] at hm
      rcases hm with hm | hm
      . exact absurd hm (Nat.succ_ne_self _)
      . rw [← hm] at this; exact absurd this (Nat.not_lt.mpr (Nat.le_succ _))
    . refine b1r (K i v hv) fun b ws n r e0 g e ia hb => ?_
      exact ⟨b, ws, n, r, e0, hk b _ (nb b hb).1 (nb b hb).2 g, e, ia, hb⟩
    . refine b1r (hrows i v hv) fun b ws n r e0 g e ia hb => ?_
      exact ⟨b, ws, n, r, e0, Heap.get?_push_of_some _ (Heap.get?_push_of_some _ g), e, ia, hb⟩
    . have kp : ∀ b o, s.heap.get? b = some o -> h'.get? b = some o := fun b o e => hk b o (nb b (Heap.lt_size e)).1 (nb b (Heap.lt_size e)).2 (Heap.get?_push_of_some _ (Heap.get?_push_of_some _ e))
      exact q vb _ (.of_keeps kp rfl rfl) ((hd0 vb (by simpa using hP)).keep (.of_keeps kp))
end
end Mine
end
section
open PySem PyProof.Rows PySem.SeqAt
namespace Mine
theorem c2c : ∀ l m : List Nat, ltZ (l.map fun (x : Nat) => (x : Int)) (m.map fun (x : Nat) => (x : Int)) = lexB l m
  | [], [] => rfl
  | [], _ :: _ => rfl
  | _ :: _, [] => rfl
  | a :: l, b :: m => by
    show (if ((a : Int) == (b : Int)) = true then ltZ _ _ else decide ((a : Int) < (b : Int))) = if a = b then lexB l m else decide (a < b)
    erw [c2c l m]
    by_cases h : a = b
    . erw [if_pos h, if_pos (beq_iff_eq.mpr (by erw [h]))]
    . erw [if_neg h, if_neg (show ¬ ((a : Int) == (b : Int)) = true from fun h' => h (Int.ofNat.inj (beq_iff_eq.mp h')))]
      exact decide_eq_decide.mpr Int.ofNat_lt
noncomputable def a0t (rows : List (List Nat)) : List D := rows.map fun r => .lst (a0a r)
theorem c5m (rows : List (List Nat)) : a0t rows = b8b (rows.map fun r => r.map fun (x : Nat) => (x : Int)) := by
  unfold a0t b8b
  erw [List.map_map]
  refine List.map_congr_left fun r ζ => ?_
  show D.lst (a0a r) = D.lst ((r.map fun (x : Nat) => (x : Int)).map .int)
  unfold a0a
  erw [List.map_map]; rfl
section
variable {W : World0} {k : Nat} {ρ : List (Option V)} {σ : List O} {s w : Nat} {t : List Nat}
theorem TEq.minL (hW : WOk W) {e : CE} {r0 : List Nat} {rest : List (List Nat)} (te : TEq W k e ρ σ (.lst (a0t (r0 :: rest)))) (hlen : ∀ r ∈ rest, r.length = r0.length) (hmin : ∀ r ∈ rest, lexB r r0 = false) : TEq W k (.prim "min" [e]) ρ σ (.lst (a0a r0)) :=
  TE.primG hW (by decide) (v := .builtin "min") (by decide +kernel) (by decide) (.inl ⟨_, rfl⟩) (by simp) (te.to (by
    refine ⟨_, ⟨rfl, rfl⟩, fun X names Λ ad s vs hr hw S rr => ?_⟩
    obtain ⟨v', rfl, r⟩ := rr.one
    have d := r.dInv
    rw [c5m] at d
    have g := c2b (W := W) (k := k) (A := X.A) (s := s) (v := v') (r0 := r0.map fun (x : Nat) => (x : Int)) (rest := rest.map fun r => r.map fun (x : Nat) => (x : Int)) hr
      (fun r hr => by obtain ⟨q, hq, rfl⟩ := List.mem_map.mp hr; erw [List.length_map, List.length_map]; exact hlen q hq)
      (fun r hr => by obtain ⟨q, hq, rfl⟩ := List.mem_map.mp hr; erw [c2c]; exact hmin q hq) d
    have e : ((r0.map fun (x : Nat) => (x : Int)).map D.int) = a0a r0 := by unfold a0a; erw [List.map_map]; rfl
    rw [e] at g
    exact g))
end
end Mine
end
section
open PySem PyProof.Rows PySem.SeqAt
namespace Mine
section
variable {W : World0} {k : Nat} {ρ : List (Option V)} {σ : List O} {s w : Nat} {t : List Nat}
theorem b3w (a b : List (List Nat)) : a0t a ++ a0t b = a0t (a ++ b) := by unfold a0t; erw [List.map_append]
theorem a1y (a : List (List Nat)) : (a0t a).length = a.length := List.length_map _
theorem b3x {a : List (List Nat)} {i : Nat} {v : V} (h : ((a0t a).map V.d)[i]? = some v) : ∃ r, a[i]? = some r /\ v = .d (.lst (a0a r)) := by
  unfold a0t at h
  rw [List.getElem?_map, List.getElem?_map] at h
  cases e : a[i]? with
  | none => rw [e] at h; exact dNS h
  | some r => rw [e] at h; cases h; exact ⟨r, rfl, rfl⟩
theorem c5n (hok : WOk W) {r : List Nat} {x y z : Option V} {n : Int} (hr : r.length <= 100) (hs : s <= 4) : TEq W k (.comp (.bin .Add (.var 5) (.lst [(.var 6)])) 1 true (.prim "range" [(.var 0)]) none) [some (.d (.int (s : Int))), some (.d (.int n)), x, y, z, some (.d (.lst (a0a r)))] σ (.lst (a0t ((List.range s).map fun a => r ++ [a]))) := by
  have h := TEq.compR hok (W := W) (k := k) (σ := σ) (ρ := [some (.d (.int (s : Int))), some (.d (.int n)), x, y, z, some (.d (.lst (a0a r)))]) (elt := .bin .Add (.var 5) (.lst [(.var 6)])) (e := .var 0) (m := s) (fun j => .lst (a0a (r ++ [j]))) (tape := []) (cs := []) rfl trivial (om124 hs) fun j hj => by
    have e : a0a (r ++ [j]) = a0a r ++ [.int (j : Int)] := by unfold a0a; erw [List.map_append]; rfl
    erw [e]
    exact TEq.ev (tape := []) (cs := [_]) rfl ⟨by erw [a0b]; show r.length + 1 <= _; exact om125 hr, trivial⟩
  have e : (List.range s).map (fun j => D.lst (a0a (r ++ [j]))) = a0t ((List.range s).map fun a => r ++ [a]) := by unfold a0t; erw [List.map_map]; rfl
  rw [e] at h
  exact h
theorem b1l (hs : s <= 4) : ∀ l : List (List Nat), (a1x s l).length <= 4 * l.length
  | [] => Nat.zero_le _
  | r :: l => by
    unfold a1x
    erw [List.flatMap_cons, List.length_append, List.length_map, List.length_range]
    have := b1l hs l
    unfold a1x at this
    erw [List.length_cons]; exact om126 hs this
theorem b3y : ∀ {n : Nat} {r : List Nat}, r ∈ a2r s n -> r.length = n
  | 0, r, h => by erw [List.mem_singleton.mp h]; rfl
  | n + 1, r, h => by
    refine xEA (List.mem_flatMap.mp h) fun q hq h2 => ?_
    obtain ⟨a, _, rfl⟩ := List.mem_map.mp h2
    erw [List.length_append, b3y hq]; rfl
theorem a9b (hs : s <= 4) : ∀ n, (a2r s n).length <= 4 ^ n
  | 0 => Nat.le_refl _
  | n + 1 => by
    have := b1l hs (a2r s n)
    have ih := a9b hs n
    show (a1x s (a2r s n)).length <= 4 ^ (n + 1)
    erw [Nat.pow_succ]; exact om127 this ih
theorem c2d {l : List (List Nat)} {i : Nat} {r : List Nat} (h : l[i]? = some r) : a1x s (l.take (i + 1)) = a1x s (l.take i) ++ (List.range s).map fun a => r ++ [a] := by
  unfold a1x
  erw [List.take_add_one, h, List.flatMap_append]
  congr 1
  show ([r] : List (List Nat)).flatMap _ = _
  erw [List.flatMap_cons, List.flatMap_nil, List.append_nil]
theorem b8c (hok : WOk W) (hf : HasF W "_law_rows" b4c) (hs : s <= 4) {n : Nat} (hn : n <= 3) : Spec W (k + 1) "_law_rows" [.d (.int (s : Int)), .d (.int (n : Int))] (.lst (a0t (a2r s n))) := by
  have b64 : ∀ j, j <= 3 -> 4 ^ j <= 64 := fun j hj => by
    rcases (show j = 0 ∨ j = 1 ∨ j = 2 ∨ j = 3 by exact om128 hj) with rfl | rfl | rfl | rfl <;> decide
  refine Spec.intro hf rfl (TS.asgV (tape := []) (cs := []) rfl trivial (TS.forR hok (m := n) (tape := []) (cs := []) rfl trivial (om129 hn)
    (fun j ρ σ => ∃ x3 x4 x5, ρ = [some (.d (.int (s : Int))), some (.d (.int (n : Int))), some (.d (.lst (a0t (a2r s j)))), x3, x4, x5] /\ σ = []) ⟨_, _, _, rfl, rfl⟩ (fun j ρ₁ σ₁ hj ⟨x3, x4, x5, e1, e2⟩ => ?_) fun ρ₁ σ₁ ⟨x3, x4, x5, e1, e2⟩ => ?_))
  . subst e1 e2
    have hlen := a9b hs j
    have h64 := b64 j (om130 hj hn)
    refine TS.asgV (tape := []) (cs := []) rfl trivial (TS.forS (tape := []) (cs := []) (l := (a0t (a2r s j)).map V.d) (c := true) rfl trivial rfl rfl (by erw [List.length_map, a1y]; exact om131 hlen h64)
      (fun i ρ σ => i <= (a2r s j).length /\ ∃ x5, ρ = [some (.d (.int (s : Int))), some (.d (.int (n : Int))), some (.d (.lst (a0t (a2r s j)))), some (.d (.int (j : Int))), some (.d (.lst (a0t (a1x s ((a2r s j).take i))))), x5] /\ σ = []) ⟨Nat.zero_le _, _, rfl, rfl⟩ (fun i v ρ₁ σ₁ hv ⟨hi, x5, e1, e2⟩ => ?_) fun ρ₁ σ₁ ⟨hi, x5, e1, e2⟩ => ?_)
    . subst e1 e2
      obtain ⟨r, hr, rfl⟩ := b3x hv
      have hrl := b3y (List.mem_of_getElem? hr)
      have hst := b1l hs ((a2r s j).take i)
      have htl : ((a2r s j).take i).length <= (a2r s j).length := by erw [List.length_take]; exact Nat.min_le_right _ _
      refine TS.asgE (TEq.addL (TEq.v rfl) (c5n hok (om132 hrl hj hn) hs) (by erw [a1y, a1y, List.length_map, List.length_range]; exact om133 hs hlen h64 hst htl)) (TS.nil ⟨(List.getElem?_eq_some_iff.mp hr).1, some (.d (.lst (a0a r))), ?_, rfl⟩)
      erw [b3w, ← c2d hr]; rfl
    . subst e1 e2
      refine TS.asgV (tape := []) (cs := []) rfl trivial (TS.nil ⟨some (.d (.int (j : Int))), some (.d (.lst (a0t (a2r s (j + 1))))), x5, ?_, rfl⟩)
      erw [show (a2r s j).take ((a0t (a2r s j)).map V.d).length = a2r s j by erw [List.length_map, a1y, List.take_length]]
      rfl
  . subst e1 e2
    exact TS.retV (tape := []) (cs := []) rfl trivial rfl
end
end Mine
end
section
open PySem PyProof.Rows PySem.SeqAt
namespace Mine
section
variable {W : World0} {k : Nat} {s w : Nat} {t l p : List Nat}
structure Has5a (W : World0) : Prop where
  ok : WOk W
  lsign : HasF W "_law_sign" c6a
  rows : HasF W "_law_rows" b4c
  origins : HasF W "_law_origins" b1x
  number : HasF W "_law_number" b1y
theorem c6u (H : Has5a W) (R : OkR s w t) {x : Nat} (hl : l.length <= 1000) (hx : t[a0o s l]? = some x) : Spec W (k + 1) "_law_sign" [.d (a0k s w t), .d (.lst (a0a l))] (.int x) :=
  Spec.intro H.lsign rfl (TS.asgV (tape := []) (cs := []) rfl trivial (TS.forS (tape := []) (cs := []) (l := (a0a l).map V.d) (c := true) rfl trivial rfl rfl (by erw [List.length_map]; exact a0s hl)
    (fun n ρ σ => ∃ y, ρ = [some (.d (a0k s w t)), some (.d (.lst (a0a l))), some (.d (.int (a0o s (l.take n)))), y] /\ σ = []) ⟨none, rfl, rfl⟩
    (fun j x _ _ hx ⟨y, h1, h2⟩ => by
      subst h1 h2
      obtain ⟨a, ha, rfl⟩ := a3e hx
      refine TS.asgV (tape := []) rfl ⟨.inr (lt64 R.s1000), trivial⟩ (TS.nil ⟨some (.d (.int a)), ?_, rfl⟩)
      erw [a6y ha]; rfl)
    (fun _ _ ⟨y, h1, h2⟩ => by
      subst h1 h2
      erw [List.length_map, a0b, List.take_length]
      exact TS.retV (tape := [.int x]) rfl ⟨a0n (n := a0o s l) rfl R.len16 (a2l hx), trivial⟩ rfl)))
noncomputable def fit (s w : Nat) (t : List Nat) (x : Nat) (r : List Nat) (k : Nat) : List (List Nat) := ((List.range k).filter fun a => t.getD (a0o s ((r ++ [a]).drop (r.length + 1 - w))) 0 == x).map fun a => r ++ [a]
theorem c5o {x a : Nat} {r : List Nat} : fit s w t x r (a + 1) = fit s w t x r a ++ if t.getD (a0o s ((r ++ [a]).drop (r.length + 1 - w))) 0 == x then [r ++ [a]] else [] := by
  unfold fit
  erw [List.range_succ, List.filter_append, List.map_append]
  congr 1
  erw [List.filter_cons]
  cases t.getD (a0o s ((r ++ [a]).drop (r.length + 1 - w))) 0 == x <;> rfl
theorem c2e {x : Nat} {r : List Nat} (k : Nat) : (fit s w t x r k).length <= k := by
  unfold fit
  erw [List.length_map]
  exact Nat.le_trans (List.length_filter_le _ _) (by erw [List.length_range]; exact Nat.le_refl _)
theorem c2f {x i : Nat} {L : List (List Nat)} {r : List Nat} (h : L[i]? = some r) : a0u s w t (L.take (i + 1)) x = a0u s w t (L.take i) x ++ fit s w t x r s := by
  unfold a0u
  erw [List.take_add_one, h, List.flatMap_append]
  congr 1
  show ([r] : List (List Nat)).flatMap _ = _
  erw [List.flatMap_cons, List.flatMap_nil, List.append_nil]; rfl
theorem a4r {x : Nat} : ∀ L : List (List Nat), (a0u s w t L x).length <= s * L.length
  | [] => Nat.zero_le _
  | r :: L => by
    have ih := a4r (x := x) L
    have h := c2e (s := s) (w := w) (t := t) (x := x) (r := r) s
    unfold a0u at ih ⊢
    erw [List.flatMap_cons, List.length_append, List.length_cons, Nat.mul_succ]
    have h : (((List.range s).filter fun a => t.getD (a0o s ((r ++ [a]).drop (r.length + 1 - w))) 0 == x).map fun a => r ++ [a]).length <= s := h
    exact om134 h ih
end
end Mine
end
section
open PySem PyProof.Rows PySem.SeqAt
namespace Mine
section
variable {W : World0} {k : Nat} {s w : Nat} {t l p : List Nat}
noncomputable def Lj (s w : Nat) (t p : List Nat) (j : Nat) : List (List Nat) := (p.take j).foldl (a0u s w t) (a2r s (w - 1))
theorem b5j {j x : Nat} (h : p[j]? = some x) : Lj s w t p (j + 1) = a0u s w t (Lj s w t p j) x := by
  unfold Lj
  erw [List.take_add_one, h, List.foldl_append]; rfl
theorem c6v (hs : 0 < s) : ∀ (j : Nat), j <= p.length -> ∀ r ∈ Lj s w t p j, r.length = w - 1 + j /\ ∀ c ∈ r, c < s
  | 0, _, r, hr => by
    have hr : r ∈ a2r s (w - 1) := hr
    rw [b1i hs] at hr
    obtain ⟨e, _, rfl⟩ := List.mem_map.mp hr
    exact ⟨by erw [a1g]; rfl, a3i hs _ _⟩
  | j + 1, hj, r, hr => by
    rw [b5j (List.getElem?_eq_getElem hj)] at hr
    refine xEA (List.mem_flatMap.mp hr) fun q hq h2 => ?_
    obtain ⟨a, ha, rfl⟩ := List.mem_map.mp h2
    obtain ⟨h3, h4⟩ := c6v hs j (Nat.le_of_succ_le hj) q hq
    refine ⟨by erw [List.length_append, h3]; rfl, fun c hc => ?_⟩
    rcases List.mem_append.mp hc with hc | hc
    . exact h4 c hc
    . erw [List.mem_singleton.mp hc]; exact List.mem_range.mp (List.mem_filter.mp ha).1
theorem b7h (hs : s <= 4) (hw : w <= 4) : ∀ (j : Nat), j <= p.length -> (Lj s w t p j).length <= 64 * 4 ^ j
  | 0, _ => by
    have h := a9b hs (w - 1)
    have h2 : 4 ^ (w - 1) <= 4 ^ 3 := Nat.pow_le_pow_right (by decide) (om135 hw)
    exact Nat.le_trans h (Nat.le_trans h2 (by decide))
  | j + 1, hj => by
    erw [b5j (List.getElem?_eq_getElem hj)]
    have ih := b7h hs hw j (Nat.le_of_succ_le hj)
    have h := a4r (s := s) (w := w) (t := t) (x := p[j]) (Lj s w t p j)
    have h2 : s * (Lj s w t p j).length <= 4 * (Lj s w t p j).length := Nat.mul_le_mul_right _ hs
    erw [Nat.pow_succ]; exact om136 h h2 ih
theorem b3z (H : Has5a W) (R : OkR s w t) (hp : p.length <= 6) : Spec W (k + 2) "_law_origins" [.d (a0k s w t), .d (.lst (a0a p))] (.lst (a0t (origL s w t p))) := by
  have hs : 0 < s := Nat.lt_of_lt_of_le (by decide) R.s2
  have s4 := R.s4; have w1 := R.w1; have w4 := R.w4
  erw [← b5h R.w1 hs R.len]
  refine Spec.intro H.origins rfl (TS.asgV (tape := [.lst (a0t (a2r s (w - 1)))]) (cs := [_]) rfl ⟨a6i R.w1 ▸ b8c (k := k) H.ok H.rows R.s4 (n := w - 1) (om135 w4), trivial⟩ ?_)
  refine TS.forS (tape := []) (cs := []) (l := (a0a p).map V.d) (c := true) rfl trivial rfl rfl (by erw [List.length_map, a0b]; exact om137 hp)
    (fun j ρ σ => j <= p.length /\ ∃ x3 x4 x5 x6 x7, ρ = [some (.d (a0k s w t)), some (.d (.lst (a0a p))), some (.d (.lst (a0t (Lj s w t p j)))), x3, x4, x5, x6, x7] /\ σ = List.replicate j .dead) ⟨Nat.zero_le _, none, none, none, none, none, rfl, rfl⟩
    (fun j v _ _ hx ⟨hj, x3, x4, x5, x6, x7, e2, e3⟩ => ?_) (fun _ _ ⟨hj, x3, x4, x5, x6, x7, e2, e3⟩ => ?_)
  . subst e2 e3
    obtain ⟨x, ht, rfl⟩ := a3e hx
    have hjl : j < p.length := (List.getElem?_eq_some_iff.mp ht).1
    have eL := b5j (s := s) (w := w) (t := t) ht
    have hrow := c6v (s := s) (w := w) (t := t) (p := p) hs j hj
    have hlen := b7h (s := s) (w := w) (t := t) (p := p) R.s4 R.w4 j hj
    have h46 : 4 ^ j <= 4 ^ 6 := Nat.pow_le_pow_right (by decide) (om138 hjl hp)
    have h46' : 4 ^ j <= 4096 := h46
    generalize hL : Lj s w t p j = L at *
    have hLl : L.length <= 262144 := by omega
    refine TS.asgL (tape := []) (cs := []) (vs := []) (l := []) rfl trivial rfl (Nat.zero_le _) ?_
    erw [List.length_replicate]
    refine TS.forS (tape := []) (cs := []) (l := (a0t L).map V.d) (c := true) rfl trivial rfl rfl (by erw [List.length_map, a1y]; exact om139 hLl)
      (fun i ρ σ => i <= L.length /\ ∃ x5 x6 x7, ρ = [some (.d (a0k s w t)), some (.d (.lst (a0a p))), some (.d (.lst (a0t L))), some (.d (.int (x : Int))), some (.r j), x5, x6, x7] /\ σ = List.replicate j .dead ++ [.lst (a0t (a0u s w t (L.take i) x))]) ⟨Nat.zero_le _, _, _, _, rfl, rfl⟩
      (fun i v _ _ hv ⟨hi, x5, x6, x7, e2, e3⟩ => ?_) (fun _ _ ⟨hi, x5, x6, x7, e2, e3⟩ => ?_)
    . subst e2 e3
      obtain ⟨r, hr, rfl⟩ := b3x hv
      refine xA (hrow r (List.mem_of_getElem? hr)) fun hrl hrs => ?_
      have ho := a4r (s := s) (w := w) (t := t) (x := x) (L.take i)
      have htl : (L.take i).length <= L.length := by erw [List.length_take]; exact Nat.min_le_right _ _
      have ho' : (a0u s w t (L.take i) x).length <= 4 * L.length := Nat.le_trans ho (Nat.le_trans (Nat.mul_le_mul_right _ R.s4) (Nat.mul_le_mul_left _ htl))
      refine TS.forR H.ok (m := s) (tape := []) (cs := []) rfl trivial (om124 s4)
        (fun a ρ σ => a <= s /\ ∃ x6 x7, ρ = [some (.d (a0k s w t)), some (.d (.lst (a0a p))), some (.d (.lst (a0t L))), some (.d (.int (x : Int))), some (.r j), some (.d (.lst (a0a r))), x6, x7] /\ σ = List.replicate j .dead ++ [.lst (a0t (a0u s w t (L.take i) x ++ fit s w t x r a))]) ⟨Nat.zero_le _, _, _, rfl, by show _ = List.replicate j O.dead ++ [.lst (a0t (a0u s w t (L.take i) x ++ []))]; erw [List.append_nil]⟩
        (fun a _ _ ha ⟨_, x6, x7, e2, e3⟩ => ?_) (fun _ _ ⟨_, x6, x7, e2, e3⟩ => ?_)
      . subst e2 e3
        have ei : a0a (r ++ [a]) = a0a r ++ [.int (a : Int)] := by unfold a0a; erw [List.map_append]; rfl
        refine TS.asgV (v := .d (.lst (a0a (r ++ [a])))) (tape := []) (cs := [_]) (by rw [ei]; rfl) ⟨by erw [a0b]; show r.length + 1 <= _; exact om140 hrl w4 hjl hp, trivial⟩ ?_
        have hw' : r.length + 1 - w <= (r ++ [a]).length := by erw [List.length_append]; show _ <= r.length + 1; exact om141
        have hn : a0o s ((r ++ [a]).drop (r.length + 1 - w)) < t.length := by
          erw [R.len]
          have hd : ((r ++ [a]).drop (r.length + 1 - w)).length = w := by erw [List.length_drop, List.length_append]; show r.length + 1 - (r.length + 1 - w) = w; exact om142 hrl
          have := a2q (s := s) (l := (r ++ [a]).drop (r.length + 1 - w)) fun c hc => by
            rcases List.mem_append.mp (List.mem_of_mem_drop hc) with hc | hc
            . exact hrs c hc
            . erw [List.mem_singleton.mp hc]; exact ha
          rw [hd] at this
          exact this
        obtain ⟨y, hy⟩ : ∃ y, t[a0o s ((r ++ [a]).drop (r.length + 1 - w))]? = some y := ⟨_, List.getElem?_eq_getElem hn⟩
        have hgd : t.getD (a0o s ((r ++ [a]).drop (r.length + 1 - w))) 0 = y := by erw [List.getD_eq_getElem?_getD, hy]; rfl
        have hfs := c5o (s := s) (w := w) (t := t) (x := x) (a := a) (r := r)
        rw [hgd] at hfs
        have hll : (r ++ [a]).length = r.length + 1 := List.length_append
        have hsl : TEq W (k + 1) (.slice (.var 7) (some (.bin .Sub (.prim "len" [(.var 7)]) (.sub (.var 0) (.int 1)))) none) [some (.d (a0k s w t)), some (.d (.lst (a0a p))), some (.d (.lst (a0t L))), some (.d (.int (x : Int))), some (.r j), some (.d (.lst (a0a r))), some (.d (.int (a : Int))), some (.d (.lst (a0a (r ++ [a]))))] (List.replicate j .dead ++ [.lst (a0t (a0u s w t (L.take i) x ++ fit s w t x r a))]) (.lst (a0a ((r ++ [a]).drop (r.length + 1 - w)))) := by
          erw [show a0a ((r ++ [a]).drop (r.length + 1 - w)) = (a0a (r ++ [a])).drop (r.length + 1 - w) by unfold a0a; erw [List.map_drop]]
          refine TEq.sliceFrom (tape := []) (cs := []) (tape2 := [.int ((r.length + 1 : Nat) : Int)]) (cs2 := [_]) (n := r.length + 1 - w) rfl trivial (by rw [show ((r.length + 1 - w : Nat) : Int) = ((r.length + 1 : Nat) : Int) - (w : Int) by exact om143 hrl]; rfl) ⟨?_, trivial⟩ rfl (by erw [a0b, hll]; exact om141) (by erw [a0b, hll]; exact om140 hrl w4 hjl hp)
          exact TEq.len H.ok (tape := []) (cs := []) (x := .lst (a0a (r ++ [a]))) rfl trivial rfl (by show some (a0a (r ++ [a])).length = _; erw [a0b, hll]) (om140 hrl w4 hjl hp)
        refine TS.iteV (tape := [.lst (a0a ((r ++ [a]).drop (r.length + 1 - w))), .int (y : Int)]) (cs := [_, _]) rfl ⟨c6u H R (by erw [List.length_drop, hll]; exact om144 w4) hy, hsl, trivial⟩ (fun h => ?_) fun h => ?_
        . have hyx := beqN h
          rw [hyx, if_pos (by rw [beq_iff_eq])] at hfs
          refine TS.appV (tape := []) (cs := []) (j := j) rfl a6o (by erw [a1y, List.length_append]; have := c2e (s := s) (w := w) (t := t) (x := x) (r := r) a; exact om145 s4 hLl ho' ha this) rfl trivial ?_
          erw [b7d]
          refine TS.nil (TS.nil ⟨ha, _, _, rfl, ?_⟩)
          erw [hfs, ← List.append_assoc, ← b3w _ [r ++ [a]]]; rfl
        . have hyx := bneN h
          rw [if_neg (by rw [beq_iff_eq]; exact hyx), List.append_nil] at hfs
          refine TS.nil (TS.nil ⟨ha, _, _, rfl, ?_⟩)
          erw [hfs]
      . subst e2 e3
        refine TS.nil ⟨(List.getElem?_eq_some_iff.mp hr).1, _, x6, x7, rfl, ?_⟩
        erw [c2f hr]
    . subst e2 e3
      erw [show L.take ((a0t L).map V.d).length = L by erw [List.length_map, a1y, List.take_length]]
      refine TS.freeze a6o ?_
      have ef : ([some (.d (a0k s w t)), some (.d (.lst (a0a p))), some (.d (.lst (a0t L))), some (.d (.int (x : Int))), some (.r j), x5, x6, x7] : List (Option V)).map (frz j (.lst (a0t (a0u s w t L x)))) = [some (.d (a0k s w t)), some (.d (.lst (a0a p))), some (.d (.lst (a0t L))), some (.d (.int (x : Int))), some (.d (.lst (a0t (a0u s w t L x)))), frz j (.lst (a0t (a0u s w t L x))) x5, frz j (.lst (a0t (a0u s w t L x))) x6, frz j (.lst (a0t (a0u s w t L x))) x7] := by
        show [_, _, _, _, (if j = j then some (V.d _) else _), _, _, _] = _
        erw [if_pos rfl]
        rfl
      erw [ef]
      refine TS.asgV (tape := []) (cs := []) rfl trivial (TS.nil ?_)
      show _ /\ ∃ x3 x4 x5 x6 x7, _ /\ _
      erw [eL]
      refine ⟨hjl, _, _, _, _, _, rfl, ?_⟩
      erw [List.set_append_right (h := by rw [List.length_replicate]; exact Nat.le_refl _), List.length_replicate, Nat.sub_self, List.replicate_succ']; rfl
  . subst e2 e3
    erw [List.length_map, a0b]
    refine TS.retV (v := .d (.lst (a0t (Lj s w t p p.length)))) (tape := []) (cs := []) rfl trivial ?_
    unfold Lj
    erw [List.take_length]
    rfl
end
end Mine
end
section
open PySem PyProof.Rows PySem.SeqAt
namespace Mine
section
variable {W : World0} {k : Nat} {s w : Nat} {t l p : List Nat}
theorem b4a (H : Has5a W) (R : OkR s w t) (hl : l.length <= 1000) : Spec W (k + 1) "_law_number" [.d (a0k s w t), .d (.lst (a0a l))] (.int (a0o s l)) :=
  Spec.intro H.number rfl (TS.asgV (tape := []) (cs := []) rfl trivial (TS.forS (tape := []) (cs := []) (l := (a0a l).map V.d) (c := true) rfl trivial rfl rfl (by erw [List.length_map]; exact a0s hl)
    (fun n ρ σ => ∃ y, ρ = [some (.d (a0k s w t)), some (.d (.lst (a0a l))), some (.d (.int (a0o s (l.take n)))), y] /\ σ = []) ⟨none, rfl, rfl⟩
    (fun j x _ _ hx ⟨y, h1, h2⟩ => by
      subst h1 h2
      obtain ⟨a, ha, rfl⟩ := a3e hx
      refine TS.asgV (tape := []) rfl ⟨.inr (lt64 R.s1000), trivial⟩ (TS.nil ⟨some (.d (.int a)), ?_, rfl⟩)
      erw [a6y ha]; rfl)
    (fun _ _ ⟨y, h1, h2⟩ => by
      subst h1 h2
      erw [List.length_map, a0b, List.take_length]
      exact TS.retV (tape := []) (cs := []) rfl trivial rfl)))
noncomputable def dN : D -> Nat
  | .int i => i.toNat
  | _ => 0
noncomputable def numD (s m : Nat) : D -> D
  | .lst l => .int ((a0o s ((l.map dN).drop m) : Nat) : Int)
  | _ => .none
theorem c2g (l : List Nat) : (a0a l).map dN = l := by
  unfold a0a
  erw [List.map_map]
  exact (List.map_congr_left fun x ζ => Int.toNat_natCast x).trans (List.map_id _)
theorem c2h (m : Nat) (L : List (List Nat)) : (a0t L).map (numD s m) = a0a (L.map fun r => a0o s (r.drop m)) := by
  unfold a0t
  erw [List.map_map]
  show _ = (L.map fun r => a0o s (r.drop m)).map _
  erw [List.map_map]
  refine List.map_congr_left fun r ζ => ?_
  show D.int ((a0o s (((a0a r).map dN).drop m) : Nat) : Int) = _
  erw [c2g]; rfl
theorem c2i (hw : 1 <= w) (hs : 0 < s) (h8 : s ^ (w - 1) <= 8) (p : List Nat) : a6x ((origL s w t p).map fun r => a0o s (r.drop p.length)) = reach s (s ^ (w - 1)) t p := by
  have key : ∀ x, decide (x ∈ (origL s w t p).map fun r => a0o s (r.drop p.length)) = decide (x ∈ reach s (s ^ (w - 1)) t p) := fun x => by
    rw [Bool.eq_iff_iff, decide_eq_true_eq, decide_eq_true_eq, c1u hw hs p x, List.mem_map]
  unfold a6x
  erw [show (fun x => decide (x ∈ (origL s w t p).map fun r => a0o s (r.drop p.length))) = fun x => decide (x ∈ reach s (s ^ (w - 1)) t p) from funext key]
  erw [a7h h8 fun x hx => a6n x (of_decide_eq_true hx)]
  rcases List.eq_nil_or_concat p with rfl | ⟨m, x, rfl⟩
  . show (List.range _).filter (fun x => decide (x ∈ List.range _)) = List.range _
    exact List.filter_eq_self.mpr fun x hx => decide_eq_true hx
  . erw [List.concat_eq_append, a3p]
    unfold a1n
    refine List.filter_congr fun x hx => ?_
    rw [Bool.eq_iff_iff, decide_eq_true_eq, List.mem_filter]
    exact ⟨fun h => h.2, fun h => ⟨hx, h⟩⟩
theorem ends5 (H : Has5a W) (R : OkR s w t) (hp : p.length <= 6) {σ : List O} {ρ : List (Option V)} (h0 : ρ[0]? = some (some (.d (a0k s w t)))) (h1 : ρ[1]? = some (some (.d (.lst (a0a p))))) (h2 : ρ[2]? = some (some (.d (.lst (a0t (origL s w t p)))))) (hρ : ρ.length = 9) :
    TEq W (k + 1) (.prim "tuple" [(.prim "sorted" [(.prim "set" [(.comp (.call "_law_number" [(.var 0), (.slice (.var 9) (some (.prim "len" [(.var 1)])) none)]) 1 true (.var 2) none)])])]) ρ σ (.tup (a0a (reach s (s ^ (w - 1)) t p))) := by
  have hs : 0 < s := Nat.lt_of_lt_of_le (by decide) R.s2
  have w4 := R.w4
  have hlen : (origL s w t p).length <= 16777216 := by
    have h := b7h (s := s) (w := w) (t := t) (p := p) R.s4 R.w4 p.length (Nat.le_refl _)
    unfold Lj at h
    rw [List.take_length, b5h R.w1 hs R.len] at h
    have h46 : 4 ^ p.length <= 4 ^ 6 := Nat.pow_le_pow_right (by decide) hp
    have h46' : 4 ^ p.length <= 4096 := h46
    omega
  have vv : ∀ (i : Nat) (v : V) (x : Option V), ρ[i]? = some (some v) -> pv W (k + 1) σ (ρ ++ [x]) (.var i) [] [] = some (v, [], []) := fun i v x h => by
    show bO (ρ ++ [x])[i]? _ = _
    erw [List.getElem?_append_left (List.getElem?_eq_some_iff.mp h).1, h]; rfl
  have v9 : ∀ (x : V), pv W (k + 1) σ (ρ ++ [some x]) (.var 9) [] [] = some (x, [], []) := fun x => by
    show bO (ρ ++ [some x])[9]? _ = _
    erw [← hρ, List.getElem?_append_right (Nat.le_refl _), Nat.sub_self]; rfl
  refine TEq.tuple H.ok ?_ (by erw [a0b]; have := a4p (s := s) (t := t) (l := p) (N := s ^ (w - 1)); have := R.n8; omega)
  erw [← c2i R.w1 hs R.n8 p]
  refine TE.sortedSet H.ok ((show TEq W (k + 1) (.comp (.call "_law_number" [(.var 0), (.slice (.var 9) (some (.prim "len" [(.var 1)])) none)]) 1 true (.var 2) none) ρ σ (.lst (a0a ((origL s w t p).map fun r => a0o s (r.drop p.length)))) from ?_).to ⟨_, rfl, fun x hx => ?_, rfl, rfl⟩)
  . erw [← c2h]
    refine TEq.compS (v := .d (.lst (a0t (origL s w t p)))) (b := true) _ (tape := []) (cs := []) (by show bO ρ[2]? _ = _; erw [h2]; rfl) trivial rfl rfl (by erw [a1y]; exact hlen) fun x hx => ?_
    obtain ⟨r, hr, rfl⟩ := List.mem_map.mp hx
    refine xA (b1j hs hr) fun r1 r2 => ?_
    have en : numD s p.length (.lst (a0a r)) = .int ((a0o s (r.drop p.length) : Nat) : Int) := by show D.int ((a0o s (((a0a r).map dN).drop p.length) : Nat) : Int) = _; erw [c2g]
    erw [en]
    have hsl : TEq W (k + 1) (.slice (.var 9) (some (.prim "len" [(.var 1)])) none) (ρ ++ [some (.d (.lst (a0a r)))]) σ (.lst (a0a (r.drop p.length))) := by
      erw [show a0a (r.drop p.length) = (a0a r).drop p.length by unfold a0a; erw [List.map_drop]]
      exact TEq.sliceFrom (tape := []) (cs := []) (tape2 := [.int (p.length : Int)]) (cs2 := [_]) (v9 _) trivial rfl ⟨TEq.len H.ok (tape := []) (cs := []) (vv 1 _ _ h1) trivial rfl (by show some (a0a p).length = _; erw [a0b]) (om137 hp), trivial⟩ rfl (by erw [a0b]; exact om146 r1) (by erw [a0b]; exact om147 r1 w4 hp)
    refine TEv.call (by intro h; exact dCN h) (TEsv.cons (TEv.ev (tape := []) (cs := []) (vv 0 _ _ h0) trivial) (TEsv.cons hsl ⟨rfl, rfl⟩)) (.cons (.d _) (.cons (.d _) .nil)) (b4a H R (by erw [List.length_drop]; exact om148 r1 w4))
  . have := (c1u (t := t) R.w1 hs p x).mpr (by obtain ⟨r, hr, rfl⟩ := List.mem_map.mp hx; exact ⟨r, hr, rfl⟩)
    exact Nat.lt_of_lt_of_le (a6n x this) R.n8
end
end Mine
end
section
open PySem PyProof.Rows PySem.SeqAt
namespace Mine
section
variable {W : World0} {k : Nat} {ρ : List (Option V)} {σ : List O} {Q : Out -> List (Option V) -> List O -> Prop} {ss : List CS}
theorem TE.listCopy (hW : WOk W) {e : CE} {Q : V -> List O -> Prop} (t : TE W k e ρ σ fun v σ' => ∃ l, lstV σ' v = some l /\ l.length <= 16777216 /\ Q (.r σ'.length) (σ' ++ [.lst l])) : TE W k (.prim "list" [e]) ρ σ Q := fun names sc E he X hk hr hw Λ ad s S => by
  replace he := a3c he; obtain ⟨_, _, _, _, rfl, he⟩ := he
  simp only [Bool.and_eq_true] at he
  refine a4v hW (f := "list") (by decide) (v := .type "list") (by decide +kernel) (by decide) (.inr ⟨_, rfl⟩) (es := [e]) (by simp) he.1.1 he.1.2 hk hr hw S (Q := fun vals σ' => ∃ v l, vals = [v] /\ lstV σ' v = some l /\ l.length <= 16777216 /\ Q (.r σ'.length) (σ' ++ [.lst l])) (t.mono fun v σ' h => ?_) fun vs s₁ vals σ₁ Λ₁ ad₁ S₁ P₁ r₁ q => ?_
  . refine xE h fun l h => ?_; exact ⟨v, l, rfl, h⟩
  . obtain ⟨v, l, rfl, hl, hz, q⟩ := q
    obtain ⟨v', rfl, r⟩ := r₁.one
    obtain ⟨a, ws, n, rfl, h1, h2⟩ := a4e S₁ r hl
    refine call_list_seq a (T := "list") (.inl rfl) h1 rfl rfl (fun h' c' hk hS => ?_) (by erw [List.size_toArray, h2.length]; exact hz)
    obtain ⟨S₂, P₂⟩ := S₁.live (s' := { s₁ with heap := h' }) (.of_keeps hk rfl rfl) (a0l s₁.heap) (o := .lst l) (by intro h; cases h) (fun Λ' ad' K pre => ⟨ws, c', hS, Un.mono K h2⟩) ⟨_, hS⟩
    exact ⟨_, _, _, _, S₂, P₁.trans P₂, .r (by erw [← S₁.len]; simp), q⟩
theorem c2j {va vb : V} {a b : CE} {x : D} (ta : TEv W k a ρ σ va) (tb : TEv W k b ρ σ vb) (h1 : a0i σ va = some x) (h2 : a0i σ vb = some x) (hp : a0y x = true) (hd : dep x <= 200) : TCv W k (.cmp .NotEq a b) ρ σ false := by
  have h := TCv.cmp ta tb (.ne h1 h2 hp hp hd)
  rw [a5x x hp] at h
  exact h
theorem a9c {h : Nat} {l : List D} (e : σ[h]? = some (.lst l)) : a0i σ (.r h) = some (.lst l) := by
  show (match σ[h]? with | some (.lst l) => some (D.lst l) | some (.dI l) => some (.dI l) | some (.dT l) => some (.dT l) | _ => none) = _
  erw [e]
theorem b5k (s w : Nat) (t : List Nat) : nolist (a0k s w t) = true := by
  show (true && (true && (nolists (a0a t) && true))) = true
  erw [a2y]; rfl
theorem TS.ifN {c : CE} {s : List CS} (t : TCv W k c ρ σ false) (h : TS W k ss ρ σ Q) : TS W k (.ite c s [] :: ss) ρ σ Q := TS.iteC t (fun h => by exact dFT h) (fun ζ => TS.nil h)
structure Has5 (W : World0) : Prop where
  O : HasO W
  L : HasL W
  A : Has5a W
  lon : HasF W "_law_on" L_on
  many : HasF W "_law_many" b1w
  steps : HasF W "_law_steps" b0i
  further : HasF W "_law_further" a7y
  whole : HasF W "_law_whole" b8l
  ends_right : HasF W "_law_ends_right" a7d
  short : HasF W "_law_short" L_short
  long : HasF W "_law_long" c6c
  odd : HasF W "_law_odd" c6b
  refused : HasF W "_law_refused" a9k
  row : HasX W "BadRow"
  law : HasF W "law" F_law5
variable {s w : Nat} {t l p : List Nat}
theorem c6w (H : Has5 W) (i : Int) : Spec W (k + 1) "_law_whole" [.d (.int i)] (.bool true) :=
  Spec.intro H.whole rfl (TS.retV (tape := [.bool true, .bool false]) (cs := [_, _]) rfl ⟨TEq.isiT H.A.ok (tape := []) (cs := []) (x := .int i) rfl trivial rfl .bool rfl, TEq.isiT H.A.ok (tape := []) (cs := []) (x := .int i) rfl trivial rfl .int rfl, trivial⟩ rfl)
theorem a9d (H : Has5 W) (hl : l.length <= 1000) : Spec W (k + 2) "_law_ends_right" [.d (.tup (a0a l)), .d (.tup (a0a l))] (.bool true) := by
  have hb := TEq.compF (W := W) (k := k + 1) (σ := []) (ρ := [some (.d (.tup (a0a l))), some (.d (.tup (a0a l)))]) (elt := .var 2) (c := .not (.call "_law_whole" [(.var 2)])) (e := .var 0) (fun ζ => false) id (tape := []) (cs := []) (b := false) (l := a0a l) rfl trivial rfl rfl (a0s hl)
    (fun x hx => by obtain ⟨i, _, rfl⟩ := List.mem_map.mp hx; exact TCv.ev (tape := [.bool true]) (cs := [_]) rfl ⟨c6w H _, trivial⟩) (fun x hx h => by exact dFT h)
  rw [show (a0a l).filter (fun ζ => false) = [] from List.filter_eq_nil_iff.mpr fun x hx => by intro h; exact dFT h] at hb
  refine Spec.intro H.ends_right rfl (TS.ifF (tape := [.bool true]) (cs := [_, _]) rfl ⟨⟨a2f _, a2f _, c0q _⟩, TEq.isi H.A.ok (tape := []) (cs := []) rfl trivial rfl (.tup _), trivial⟩ ?_ (TS.retV (tape := [.lst []]) rfl ⟨⟨rfl, rfl, (by decide : 1 <= 200)⟩, hb, trivial⟩ rfl))
  erw [a5x (.tup (a0a l)) (a2f l)]; rfl
theorem b0g : ∀ L : List (List Nat), a1a (a0t L) = true
  | [] => rfl
  | r :: L => by
    show (a1a (a0a r) && a1a (a0t L)) = true
    erw [a2f, b0g L]; rfl
theorem b7i : ∀ L : List (List Nat), deps (a0t L) <= 1
  | [] => Nat.zero_le _
  | r :: L => by
    show max (deps (a0a r) + 1) (deps (a0t L)) <= 1
    erw [a7w]
    have := b7i L
    exact om149 this
theorem least5 (H : Has5 W) (R : OkR s w t) (h2 : ρ[2]? = some (some (.d (.lst (a0t (origL s w t p)))))) : TEq W k (.ite (.cmp .NotEq (.var 2) (.lst [])) (.prim "min" [(.var 2)]) .none) ρ σ (a0x s w t p) := by
  have hs : 0 < s := Nat.lt_of_lt_of_le (by decide) R.s2
  have tv : TEq W k (.var 2) ρ σ (.lst (a0t (origL s w t p))) := TEq.v h2
  have hd : dep (.lst (a0t (origL s w t p))) <= 200 := by show deps _ + 1 <= 200; have := b7i (origL s w t p); exact om150 this
  have tc := TCv.cmp (op := .NotEq) tv (TEv.ev (W := W) (k := k) (ρ := ρ) (σ := σ) (e := .lst []) (tape := []) (cs := []) rfl trivial) (.ne (σ := σ) rfl rfl (b0g _) rfl hd)
  have oh := a9a (s := s) (w := w) (t := t) (p := p)
  have hr : ∀ r ∈ origL s w t p, r.length = w - 1 + p.length := fun r h => (b1j hs h).1
  have hf := fun h l => b8a (s := s) (w := w) (t := t) (p := p) hs (h := h) (l := l)
  generalize origL s w t p = L at *
  cases L with
  | nil =>
    erw [oh]
    exact TE.ite (tc.to (show TE W k .none ρ σ _ from TE.none ⟨rfl, rfl⟩))
  | cons r0 rest =>
    erw [oh]
    exact TE.ite (tc.to (show TE W k (.prim "min" [(.var 2)]) ρ σ _ from TEq.minL H.A.ok tv (fun r h => (hr r (.tail _ h)).trans (hr r0 (.head _)).symm) (hf r0 rest rfl)))
end
end Mine
end
section
open PySem PyProof.Rows PySem.SeqAt
namespace Mine
section
variable {W : World0} {k : Nat} {σ : List O} {Q : Out -> List (Option V) -> List O -> Prop} {s w : Nat} {t p : List Nat}
noncomputable def r5 (s w : Nat) (t p : List Nat) (h : Nat) (x6 x7 x8 : Option V) : List (Option V) := [some (.d (a0k s w t)), some (.d (.lst (a0a p))), some (.d (.lst (a0t (origL s w t p)))), some (.d (a0x s w t p)), some (.d (.tup (a0a (reach s (s ^ (w - 1)) t p)))), some (.r h), x6, x7, x8]
noncomputable def body5 : List CS := match L_short.body.getD 4 (.ex .none) with | .for1 _ _ b => b | _ => []
theorem tail5 (H : Has5 W) {h : Nat} {x6 x7 x8 : Option V} (hp : p.length <= 6) (hh : σ[h]? = some (.lst (a0a p))) (q : ∀ σ' h', σ'[h']? = some (.lst (a0a p)) -> Q .next (r5 s w t p h' x6 x7 x8) σ') : TS W k (body5.drop 6) (r5 s w t p h x6 x7 x8) σ Q := by
  refine TS.cons (TS1.ex (TE.append (i := 5) (j := h) rfl ⟨_, hh⟩ (TE.int ⟨.int 7, a0a p, rfl, hh, a0s (om151 hp), ?_⟩)))
  refine TS.cons (TS1.asg (TE.listCopy H.A.ok (TE.var (val := .d (.lst (a0a p))) rfl ⟨a0a p, rfl, a0s (om151 hp), TS.nil (q _ _ ?_)⟩)))
  erw [List.getElem?_append_right (Nat.le_refl _), Nat.sub_self]; rfl
theorem mid5 (H : Has5 W) (R : OkR s w t) (hp : p.length <= 6) (hs : ∀ x ∈ p, x < s) {h : Nat} {x6 : Option V} {v8 : V} (hh : σ[h]? = some (.lst (a0a p))) (h8 : a0i σ v8 = some (a0x s w t p)) {ss : List CS}
    (q : TS W (k + 7) ss (r5 s w t p h x6 (some (.d (.int ((origL s w t p).length : Int)))) (some v8)) σ Q) : TS W (k + 7) (((body5.drop 2).take 3) ++ ss) (r5 s w t p h x6 (some (.d (.int ((origL s w t p).length : Int)))) (some v8)) σ Q := by
  have hsp : 0 < s := Nat.lt_of_lt_of_le (by decide) R.s2
  have hlen : (origL s w t p).length <= 16777216 := by
    have h := b7h (s := s) (w := w) (t := t) (p := p) R.s4 R.w4 p.length (Nat.le_refl _)
    unfold Lj at h
    rw [List.take_length, b5h R.w1 hsp R.len] at h
    have h46 : 4 ^ p.length <= 4 ^ 6 := Nat.pow_le_pow_right (by decide) hp
    have h46' : 4 ^ p.length <= 4096 := h46
    omega
  have s3 := a7i (k := k + 1) H.O R (l := p) (om151 hp) hs
  have hrl : (reach s (s ^ (w - 1)) t p).length <= 1000 := by have := a4p (s := s) (t := t) (l := p) (N := s ^ (w - 1)); have := R.n8; omega
  have oh := a9a (s := s) (w := w) (t := t) (p := p)
  have pl : a0y (a0x s w t p) = true := by erw [oh]; cases (origL s w t p).head? with | none => rfl | some r => exact b3l r
  have dp : dep (a0x s w t p) <= 200 := by erw [oh]; cases (origL s w t p).head? with | none => exact Nat.zero_le _ | some r => exact c1r r
  have isn : TCv W (k + 7) (.cmp .Eq (.isi (.var 8) "list") (.cmp .Is (.var 3) .none)) (r5 s w t p h x6 (some (.d (.int ((origL s w t p).length : Int)))) (some v8)) σ false := by
    have hx : isFn (a0x s w t p) = false := by erw [oh]; cases (origL s w t p).head? <;> rfl
    have ti := TEq.isiT (W := W) (k := k + 7) (σ := σ) (ρ := r5 s w t p h x6 (some (.d (.int ((origL s w t p).length : Int)))) (some v8)) (e := .var 8) H.A.ok (tape := []) (cs := []) rfl trivial h8 .list hx
    have tn : TEv W (k + 7) (.cmp .Is (.var 3) .none) (r5 s w t p h x6 (some (.d (.int ((origL s w t p).length : Int)))) (some v8)) σ (.d (.bool (!isiB (a0x s w t p) "list"))) := by
      cases e : (origL s w t p).head? with
      | none =>
        rw [e] at oh
        exact TEv.ev (tape := []) (cs := []) (by unfold r5; erw [oh]; rfl) trivial
      | some r =>
        rw [e] at oh
        exact TEv.ev (tape := []) (cs := []) (by unfold r5; erw [oh]; rfl) trivial
    have tc := TCv.cmp (op := .Eq) ti tn (.eq (σ := σ) rfl rfl rfl rfl (Nat.zero_le _))
    have : eqD (.bool (isiB (a0x s w t p) "list")) (.bool (!isiB (a0x s w t p) "list")) = false := by cases isiB (a0x s w t p) "list" <;> rfl
    rw [this] at tc
    exact tc
  have te : TEv W (k + 7) (.call "_law_ends_right" [(.call "ends_of" [(.var 0), (.var 5)]), (.var 4)]) (r5 s w t p h x6 (some (.d (.int ((origL s w t p).length : Int)))) (some v8)) σ (.d (.bool true)) :=
    TEv.call (by intro h; exact dCN h) (TEsv.cons (TEv.call (by intro h; exact dCN h) (TEsv.cons (TE.var rfl ⟨rfl, rfl⟩) (TEsv.cons (TE.var rfl ⟨rfl, rfl⟩) ⟨rfl, rfl⟩)) (.cons (.d _) (.cons (.a (a9c hh)) .nil)) s3) (TEsv.cons (TE.var rfl ⟨rfl, rfl⟩) ⟨rfl, rfl⟩)) (.cons (.d _) (.cons (.d _) .nil)) (a9d (k := k + 5) H hrl)
  refine TS.ifN (TCv.or (TCv.ev (b := false) (tape := [.bool true]) (cs := [_]) rfl ⟨c6w (k := k + 6) H _, trivial⟩) (TCv.or (c2j (x := .int ((origL s w t p).length : Int)) (TE.var rfl ⟨rfl, rfl⟩) (TEq.len H.A.ok (tape := []) (cs := []) (x := .lst (a0t (origL s w t p))) (n := (origL s w t p).length) rfl trivial rfl (by show some (a0t _).length = _; erw [a1y]) hlen) rfl rfl rfl (Nat.zero_le _)) (TCv.or (c2j (TE.var rfl ⟨rfl, rfl⟩) (TE.var rfl ⟨rfl, rfl⟩) h8 rfl pl dp) c0c))) ?_
  refine TS.ifN isn ?_
  refine TS.ifN (TCv.or (TC.not ((TCv.of te rfl).to ⟨rfl, rfl⟩)) (TCv.or (c2j (x := .lst (a0a p)) (TE.var rfl ⟨rfl, rfl⟩) (TE.var rfl ⟨rfl, rfl⟩) (a9c hh) rfl (b3l p) (c1r p)) c0c)) q
theorem turn5 (H : Has5 W) (R : OkR s w t) (hp : p.length <= 6) (hs : ∀ x ∈ p, x < s) {h : Nat} {x6 x7 x8 : Option V} (hh : σ[h]? = some (.lst (a0a p)))
    (q : ∀ σ' h' x7 x8, σ'[h']? = some (.lst (a0a p)) -> Q .next (r5 s w t p h' x6 x7 x8) σ') : TS W (k + 7) body5 (r5 s w t p h x6 x7 x8) σ Q := by
  have hsp : 0 < s := Nat.lt_of_lt_of_le (by decide) R.s2
  have s1 := a5m (k := k + 1) H.O R (l := p) (om151 hp) hs
  have s2 := a6p (k := k + 1) H.O R (l := p) (om151 hp) hs
  rw [c5j hsp] at s2
  have hlt : h < σ.length := (List.getElem?_eq_some_iff.mp hh).1
  refine TS.asgE (TEv.call (by intro h; exact dCN h) (TEsv.cons (TE.var rfl ⟨rfl, rfl⟩) (TEsv.cons (TE.var rfl ⟨rfl, rfl⟩) ⟨rfl, rfl⟩)) (.cons (.d _) (.cons (.a (a9c hh)) .nil)) s2) ?_
  have oh := a9a (s := s) (w := w) (t := t) (p := p)
  cases e : (origL s w t p).head? with
  | none =>
    rw [e] at oh
    rw [oh] at s1
    refine TS.asgE (x := .none) (TEv.call (by intro h; exact dCN h) (TEsv.cons (TE.var rfl ⟨rfl, rfl⟩) (TEsv.cons (TE.var rfl ⟨rfl, rfl⟩) ⟨rfl, rfl⟩)) (.cons (.d _) (.cons (.a (a9c hh)) .nil)) s1) ?_
    refine mid5 (v8 := .d .none) H R hp hs hh (by erw [oh]; rfl) (ss := body5.drop 5) ?_
    exact TS.ifN (TCv.ev (b := false) (tape := []) (cs := []) rfl trivial) (tail5 H hp hh fun σ' h' e' => q σ' h' _ _ e')
  | some r =>
    rw [e] at oh
    rw [oh] at s1
    obtain ⟨_, hf, F⟩ := s1
    have hr := (b1j hsp (List.mem_of_mem_head? e)).1
    have w4 := R.w4
    refine TS.cons (TS1.asg (TE.callR hf (by intro h; exact dCN h) (TE.var rfl (TE.var rfl ⟨[.d (a0k s w t), .a (.lst (a0a p))], _, .cons (.n rfl (b5k s w t)) (.cons (.a (a9c hh)) .nil), F, fun r' hr' => ⟨a0a r, hr', a2y r, ?_⟩⟩))))
    have g1 : (σ ++ [O.lst (a0a r)])[h]? = some (.lst (a0a p)) := by erw [List.getElem?_append_left hlt]; exact hh
    have g2 : (σ ++ [O.lst (a0a r)])[σ.length]? = some (.lst (a0a r)) := by erw [List.getElem?_append_right (Nat.le_refl _), Nat.sub_self]; rfl
    refine mid5 (v8 := .r σ.length) H R hp hs g1 (by erw [oh]; exact a9c g2) (ss := body5.drop 5) ?_
    have tc : TCv W (k + 7) (.cmp .IsNot (.var 8) .none) (r5 s w t p h x6 (some (.d (.int ((origL s w t p).length : Int)))) (some (.r σ.length))) (σ ++ [O.lst (a0a r)]) true := TCv.ev (b := true) (tape := []) (cs := []) (by
      show bO (pis (a0i _ (.r σ.length)) (.d .none)) _ = _
      erw [a9c g2]; rfl) trivial
    refine TS.iteC tc (fun ζ => ?_) (fun h => by exact dTF h)
    refine TS.cons (TS1.ex (TE.append (i := 8) (j := σ.length) rfl ⟨_, g2⟩ (TE.int ⟨.int 7, a0a r, rfl, g2, a0s (om152 hr w4 hp), ?_⟩)))
    refine TS.nil (tail5 H hp (h := h) ?_ fun σ' h' e' => q σ' h' _ _ e')
    rw [List.getElem?_set_ne (om153 hlt)]; exact g1
theorem short5 (H : Has5 W) (R : OkR s w t) (hp : p.length <= 6) (hs : ∀ x ∈ p, x < s) : Spec W (k + 8) "_law_short" [.d (a0k s w t), .d (.lst (a0a p))] (.bool true) := by
  refine Spec.intro H.short rfl (TS.asgV (tape := [.lst (a0t (origL s w t p))]) (cs := [_]) rfl ⟨b3z (k := k + 5) H.A R hp, trivial⟩ ?_)
  refine TS.asgE (least5 (k := k + 7) H R rfl) ?_
  refine TS.asgE (ends5 (k := k + 6) H.A R hp rfl rfl rfl rfl) ?_
  refine TS.cons (TS1.asg (TE.listCopy H.A.ok (TE.var (val := .d (.lst (a0a p))) rfl ⟨a0a p, rfl, a0s (om151 hp), ?_⟩)))
  refine TS.forR H.A.ok (m := 2) (tape := []) (cs := []) rfl trivial (by decide) (fun n ρ σ => ∃ h x6 x7 x8, ρ = r5 s w t p h x6 x7 x8 /\ σ[h]? = some (.lst (a0a p))) ⟨0, _, _, _, rfl, rfl⟩
    (fun n _ σ hn ⟨h, x6, x7, x8, e1, e2⟩ => ?_) (fun _ σ ⟨h, x6, x7, x8, e1, e2⟩ => ?_)
  . subst e1
    exact turn5 H R hp hs (x6 := some (.d (.int (n : Int)))) e2 fun σ' h' x7 x8 e => ⟨h', _, _, _, rfl, e⟩
  . subst e1
    exact TS.retV (tape := []) (cs := []) rfl trivial rfl
end
end Mine
end
section
open PySem PyProof.Rows PySem.SeqAt
namespace Mine
section
variable {W : World0} {k : Nat} {σ : List O} {s w : Nat} {t l p : List Nat}
theorem c2k (H : Has5 W) (R : OkR s w t) (hl : l.length <= 1000) (hs : ∀ x ∈ l, x < s) (hw : w - 1 <= l.length) : Spec W (k + 2) "_law_on" [.d (a0k s w t), .a (.lst (a0a l))] (.lst (a0a (onL s w t l))) := by
  have e : ((a0a l).length : Int) - (w : Int) + 1 = ((l.length + 1 - w : Nat) : Int) := by erw [a0b]; have := R.w1; exact om71 hw
  refine Spec.intro H.lon rfl (TS.retV (tape := [.lst (a0a (onL s w t l))]) rfl ⟨?_, trivial⟩ rfl)
  unfold onL
  erw [b0c]
  refine TEq.compR H.A.ok (tape := [.int ((a0a l).length : Int)]) (cs := [_]) _ (by rw [← e]; rfl) ⟨TEq.len H.A.ok (tape := []) (cs := []) rfl trivial rfl rfl (a0s hl), trivial⟩ (a1k (by have := R.w1; exact om72 this hl)) fun j hj => ?_
  exact TEq.ev (tape := [.lst (a0a ((l.drop j).take w)), .int _]) rfl ⟨c6u H.A R (c1i hl) (b5b R (b5c hj) (c1g hs)).1, b6w rfl rfl (tape := []) (cs := []) rfl trivial hl hj, trivial⟩
theorem long5 (H : Has5 W) (R : OkR s w t) (hp : p.length <= 900) (hs : ∀ x ∈ p, x < s) : Spec W (k + 8) "_law_long" [.d (a0k s w t), .d (.lst (a0a p))] (.bool true) := by
  have hp1 : p.length <= 1000 := by exact om154 hp
  have w1 := R.w1
  have w4 := R.w4
  have hN8 := R.n8
  have s1 := (a5m (k := k + 1) H.O R hp1 hs).own (.same (.own .nil))
  have s2 := (a6p (k := k + 1) H.O R hp1 hs).own (.same (.own .nil))
  have s3 := (a7i (k := k + 1) H.O R hp1 hs).own (.same (.own .nil))
  have hrl : (reach s (s ^ (w - 1)) t p).length <= 1000 := by have := a4p (s := s) (t := t) (l := p) (N := s ^ (w - 1)); exact om155 this hN8
  have s4 := a9d (k := k + 5) (l := reach s (s ^ (w - 1)) t p) H hrl
  have cp := c1j (s := s) (t := t) (word := p) R.pos
  have on := b5d (s := s) (w := w) (t := t) (p := p) R.pos
  have os := b5e (s := s) (w := w) (t := t) (p := p) R.w1 (Nat.lt_of_lt_of_le (by decide) R.s2)
  refine Spec.intro H.long rfl (TS.asgE (TEq.tupRange H.A.ok (tape := [.int ((s ^ (w - 1) : Nat) : Int)]) (cs := [_]) rfl ⟨b3b H.many R, trivial⟩ (om77 hN8)) ?_)
  refine TS.forS (tape := []) (cs := []) (l := (a0a p).map V.d) (c := true) rfl trivial rfl rfl (by erw [List.length_map]; exact a0s hp1)
    (fun n ρ σ => ∃ x, ρ = [some (.d (a0k s w t)), some (.d (.lst (a0a p))), some (.d (.tup (a0a (reach s (s ^ (w - 1)) t (p.take n))))), x, none] /\ σ = []) ⟨none, rfl, rfl⟩
    (fun n x _ _ hx ⟨y, e1, e2⟩ => ?_) (fun _ _ ⟨y, e1, e2⟩ => ?_)
  . subst e1 e2
    obtain ⟨a, ha, rfl⟩ := a3e hx
    have hrl' : (reach s (s ^ (w - 1)) t (p.take n)).length <= 1000 := by have := a4p (s := s) (t := t) (l := p.take n) (N := s ^ (w - 1)); exact om155 this hN8
    exact TS.asgV (tape := [.tup (a0a (reach s (s ^ (w - 1)) t (p.take (n + 1))))]) (cs := [_]) rfl ⟨by erw [b0d ha]; exact b3c H.O.B.R H.many H.steps H.further R a6n hrl', trivial⟩ (TS.nil ⟨_, rfl, rfl⟩)
  . subst e1 e2
    erw [List.length_map, a0b, List.take_length]
    have hle : p.length + w - 1 = w - 1 + p.length := by exact om156 w1
    generalize reach s (s ^ (w - 1)) t p = E at *
    cases E with
    | nil =>
      have c0 : (cvec s (s ^ (w - 1)) t p).sum = 0 := by
        have h' : ¬ 0 < (cvec s (s ^ (w - 1)) t p).sum := fun hc => cp.mp hc rfl
        exact om157 h'
      rw [on rfl] at s1
      rw [c0] at s2
      refine TS.asgV (tape := [.none]) (cs := [_]) rfl ⟨s1, trivial⟩ ?_
      refine TS.ifN (TCv.ev (b := false) (tape := [.tup [], .bool true]) (cs := [_, _, _, _]) rfl ⟨⟨rfl, rfl, Nat.zero_le _⟩, ⟨rfl, rfl, (by decide : 1 <= 200)⟩, s4, s3, trivial⟩) ?_
      refine TS.ifN (TCv.ev (b := false) (tape := [.int ((0 : Nat) : Int)]) (cs := [_, _, _]) rfl ⟨⟨rfl, rfl, Nat.zero_le _⟩, ⟨rfl, rfl, (by decide : 1 <= 200)⟩, s2, trivial⟩) ?_
      exact TS.cons (TS1.ret (TE.or ((TEv.ev (v := .d (.bool true)) (tape := []) (cs := []) rfl trivial).to ⟨true, rfl, rfl⟩)))
    | cons a E =>
      refine b1q (os (by intro h; exact dCN h)) fun row e1 e2 e3 e4 => ?_
      have c0 := cp.mpr (by intro h; exact dCN h)
      rw [e1] at s1
      have s5 := (b1g (k := k + 1) H.O.B R (l := row) (om158 e2 w4 hp) e3 (om159 e2)).own (.same (.own .nil))
      rw [e4] at s5
      have hd : dep (.tup (a0a (a :: E))) <= 200 := c0q _
      have pl : a0y (.tup (a0a (a :: E))) = true := a2f (a :: E)
      refine TS.asgV (tape := [.lst (a0a row)]) (cs := [_]) rfl ⟨s1, trivial⟩ ?_
      refine TS.ifN (TCv.ev (b := false) (tape := [.tup (a0a (a :: E)), .bool true]) (cs := [_, _, _, _]) rfl ⟨⟨rfl, rfl, Nat.zero_le _⟩, ⟨pl, rfl, hd⟩, s4, s3, trivial⟩) ?_
      have tc := TCv.ev (W := W) (k := k + 7) (σ := []) (ρ := [some (.d (a0k s w t)), some (.d (.lst (a0a p))), some (.d (.tup (a0a (a :: E)))), y, some (.d (.lst (a0a row)))]) (e := .cmp .NotEq (.cmp .Gt (.call "count_of" [(.var 0), (.var 1)]) (.int 0)) (.cmp .NotEq (.var 2) (.tup []))) (b := !eqD (.bool (decide ((0 : Int) < (((cvec s (s ^ (w - 1)) t p).sum : Nat) : Int)))) (.bool true)) (tape := [.int (((cvec s (s ^ (w - 1)) t p).sum : Nat) : Int)]) (cs := [_, _, _]) rfl ⟨⟨rfl, rfl, Nat.zero_le _⟩, ⟨pl, rfl, hd⟩, s2, trivial⟩
      rw [decide_eq_true (show (0 : Int) < (((cvec s (s ^ (w - 1)) t p).sum : Nat) : Int) from Int.ofNat_lt.mpr c0)] at tc
      refine TS.ifN tc ?_
      have hl1 : ((a0a row).length : Int) = (((a0a p).length : Int) + (w : Int)) - 1 := by erw [a0b, a0b]; exact om160 w1 e2
      refine TS.retV (v := .d (.bool (false || ((((a0a row).length : Int) == (((a0a p).length : Int) + (w : Int)) - 1) && eqD (.lst (a0a p)) (.lst (a0a p)))))) (tape := [.int ((a0a row).length : Int), .int ((a0a p).length : Int), .lst (a0a p)]) (cs := [_, _, _, _]) rfl ⟨⟨b3l p, b3l p, c1r p⟩, s5, TEq.len H.A.ok (tape := []) (cs := []) rfl trivial rfl rfl (a0s hp1), TEq.len H.A.ok (tape := []) (cs := []) rfl trivial rfl rfl (a0s (om158 e2 w4 hp)), trivial⟩ ?_
      erw [a5x _ (b3l p), hl1, beq_self_eq_true]
      rfl
end
end Mine
end
section
open PySem PyProof.Rows PySem.SeqAt
namespace Mine
inductive NoPiece (s : Nat) : D -> Prop
  | other {x : D} (h1 : isFn x = false) (h2 : isiB x "list" = false) : NoPiece s x
  | sign {l : List D} (h1 : l.length <= 1000) (h2 : ∀ y ∈ l, isFn y = false) (h3 : ∃ y ∈ l, a6l y 0 ((s : Int) - 1) = false) : NoPiece s (.lst l)
noncomputable def c2l (s : Nat) (f : Int) : List D := [.int (-1), .int s, .int (s + f), .bool true, .none, .str (Str.ofString "0"), .lst [.int 0], .dI []]
theorem b1m {s : Nat} {z : Int} (h : z < 0 ∨ (s : Int) <= z) : a6l (.int z) 0 ((s : Int) - 1) = false := by
  show (decide ((0 : Int) <= z) && decide (z <= (s : Int) - 1)) = false
  rcases h with h | h
  . rw [decide_eq_false (om161 h)]; rfl
  . erw [decide_eq_false (p := z <= (s : Int) - 1) (om162 h), Bool.and_false]
theorem c5p {s : Nat} {f : Int} (hf : 0 <= f) : ∀ y ∈ c2l s f, isFn y = false /\ a6l y 0 ((s : Int) - 1) = false := fun y hy => by
  unfold c2l at hy
  rcases List.mem_cons.mp hy with rfl | hy
  . exact ⟨rfl, b1m (.inl (by decide))⟩
  rcases List.mem_cons.mp hy with rfl | hy
  . exact ⟨rfl, b1m (.inr (Int.le_refl _))⟩
  rcases List.mem_cons.mp hy with rfl | hy
  . exact ⟨rfl, b1m (.inr (om163 hf))⟩
  rcases List.mem_cons.mp hy with rfl | hy
  . exact ⟨rfl, rfl⟩
  rcases List.mem_cons.mp hy with rfl | hy
  . exact ⟨rfl, rfl⟩
  rcases List.mem_cons.mp hy with rfl | hy
  . exact ⟨rfl, rfl⟩
  rcases List.mem_cons.mp hy with rfl | hy
  . exact ⟨rfl, rfl⟩
  rcases List.mem_singleton.mp hy with rfl
  exact ⟨rfl, rfl⟩
noncomputable def b1n (l : List Nat) : List D := [.tup (a0a l), .str (Str.ofString "01"), .none, .dI [], .int 5, .tup [.int 0, .int 1], .bool true]
theorem b8d {s : Nat} (l : List Nat) : ∀ y ∈ b1n l, NoPiece s y := fun y hy => by
  unfold b1n at hy
  rcases List.mem_cons.mp hy with rfl | hy
  . exact .other rfl rfl
  rcases List.mem_cons.mp hy with rfl | hy
  . exact .other rfl rfl
  rcases List.mem_cons.mp hy with rfl | hy
  . exact .other rfl rfl
  rcases List.mem_cons.mp hy with rfl | hy
  . exact .other rfl rfl
  rcases List.mem_cons.mp hy with rfl | hy
  . exact .other rfl rfl
  rcases List.mem_cons.mp hy with rfl | hy
  . exact .other rfl rfl
  rcases List.mem_singleton.mp hy with rfl
  exact .other rfl rfl
theorem put_no {s : Nat} {l : List Nat} {a : Nat} {y : D} (hl : l.length <= 200) (h1 : isFn y = false) (h2 : a6l y 0 ((s : Int) - 1) = false) : NoPiece s (.lst (((a0a l).take a ++ [y]) ++ (a0a l).drop a)) := by
  refine .sign ?_ (fun z hz => ?_) ⟨y, List.mem_append_left _ (List.mem_append_right _ (List.mem_singleton.mpr rfl)), h2⟩
  . erw [List.length_append, List.length_append, List.length_take, List.length_drop, a0b]
    show min a l.length + 1 + _ <= 1000
    exact om164 hl
  . have key : ∀ z ∈ a0a l, isFn z = false := fun z hz => by obtain ⟨b, _, rfl⟩ := List.mem_map.mp hz; rfl
    rcases List.mem_append.mp hz with hz | hz
    . rcases List.mem_append.mp hz with hz | hz
      . exact key z (List.mem_of_mem_take hz)
      . erw [List.mem_singleton.mp hz]; exact h1
    . exact key z (List.mem_of_mem_drop hz)
section
variable {W : World0} {k : Nat} {s w : Nat} {t l : List Nat}
theorem c2m (H : Has5 W) (R : OkR s w t) (hl : l.length <= 200) (c : Int) : ESpec W (k + 1) "_law_odd" [.d (a0k s w t), .d (.lst (a0a l)), .d (.int c)] (NoPiece s) := by
  have hl' : (a0a l).length <= 16777216 := a0s (om165 hl)
  obtain ⟨a, ha, ea⟩ : ∃ a : Nat, a < l.length + 1 /\ c.fmod (((a0a l).length : Int) + 1) = (a : Int) := by
    erw [a0b]; exact a1j c (b := l.length + 1) (Nat.succ_pos _)
  obtain ⟨f, hf, ef⟩ : ∃ f : Int, 0 <= f /\ (c.fdiv 16).fmod ((10 : Int) ^ ((9 : Int).toNat)) = f := ⟨_, Int.fmod_nonneg_of_pos _ (by decide), rfl⟩
  obtain ⟨n, hn, en⟩ : ∃ n : Nat, n < 8 /\ (c.fdiv 2).fmod 8 = (n : Int) := a1j (c.fdiv 2) (b := 8) (by decide)
  obtain ⟨m, hm, em⟩ : ∃ n : Nat, n < 7 /\ (c.fdiv 3).fmod 7 = (n : Int) := a1j (c.fdiv 3) (b := 7) (by decide)
  obtain ⟨y, hy⟩ : ∃ y, (c2l s f)[n]? = some y := ⟨_, List.getElem?_eq_getElem hn⟩
  obtain ⟨z, hz⟩ : ∃ z, (b1n l)[m]? = some z := ⟨_, List.getElem?_eq_getElem hm⟩
  have my := c5p hf y (List.mem_of_getElem? hy)
  have body : ∀ x : D, TS W k [.ite (.cmp .Gt (.bin .Mod (.var 2) (.int 3)) (.int 0)) [.ret (.bin .Add (.bin .Add (.slice (.var 1) none (some (.var 3))) (.lst [(.var 4)])) (.slice (.var 1) (some (.var 3)) none))] [], .ret (.sub (.lst [(.prim "tuple" [(.var 1)]), (.str "01"), .none, .dct0, (.int 5), (.tup [(.int 0), (.int 1)]), (.bool true)]) (.bin .Mod (.bin .FloorDiv (.var 2) (.int 3)) (.int 7)))]
      [some (.d (a0k s w t)), some (.d (.lst (a0a l))), some (.d (.int c)), some (.d (.int (a : Int))), some (.d y)] [] (retQ x) -> Spec W (k + 1) "_law_odd" [.d (a0k s w t), .d (.lst (a0a l)), .d (.int c)] x := fun x tx => by
    refine Spec.intro H.odd rfl (TS.asgE (x := .int (a : Int)) (ea ▸ TEq.ev (tape := [.int ((a0a l).length : Int)]) (cs := [_, _]) rfl ⟨by erw [a0b]; exact om166, TEq.len H.A.ok (tape := []) (cs := []) rfl trivial rfl rfl hl', trivial⟩) ?_)
    have e0 : ∀ (e : CE) (x : D), pv W k [] [some (.d (a0k s w t)), some (.d (.lst (a0a l))), some (.d (.int c)), some (.d (.int (a : Int))), none] e [] [] = some (.d x, [], []) -> TEq W k e [some (.d (a0k s w t)), some (.d (.lst (a0a l))), some (.d (.int c)), some (.d (.int (a : Int))), none] [] x := fun e x h => TEq.ev h trivial
    have tf : TEq W k (.bin .Mod (.bin .FloorDiv (.var 2) (.int 16)) (.bin .Pow (.int 10) (.int 9))) [some (.d (a0k s w t)), some (.d (.lst (a0a l))), some (.d (.int c)), some (.d (.int (a : Int))), none] [] (.int f) := ef ▸ TEq.mod (TEq.ev (tape := []) rfl ⟨⟨by decide, by decide⟩, trivial⟩) (TEq.pow TEq.i TEq.i (by decide) (by decide +kernel)) (by decide)
    have tl : TEq W k (.lst [(.neg (.int 1)), (.sub (.var 0) (.int 0)), (.bin .Add (.sub (.var 0) (.int 0)) (.bin .Mod (.bin .FloorDiv (.var 2) (.int 16)) (.bin .Pow (.int 10) (.int 9)))), (.bool true), .none, (.str "0"), (.lst [(.int 0)]), .dct0]) [some (.d (a0k s w t)), some (.d (.lst (a0a l))), some (.d (.int c)), some (.d (.int (a : Int))), none] [] (.lst (c2l s f)) :=
      TEq.lstE (TEqs.cons (e0 _ _ rfl) (TEqs.cons (e0 _ _ rfl) (TEqs.cons (TEv.bin (e0 (.sub (.var 0) (.int 0)) (.int (s : Int)) rfl) tf (.int rfl rfl rfl trivial)) (TEqs.cons (e0 _ _ rfl) (TEqs.cons (e0 _ _ rfl) (TEqs.cons (e0 _ _ rfl) (TEqs.cons (e0 _ _ rfl) (TEqs.cons TEq.dct .nil)))))))) rfl
    have ti : TEq W k (.bin .Mod (.bin .FloorDiv (.var 2) (.int 2)) (.int 8)) [some (.d (a0k s w t)), some (.d (.lst (a0a l))), some (.d (.int c)), some (.d (.int (a : Int))), none] [] (.int (n : Int)) := en ▸ TEq.ev (tape := []) (cs := [_, _]) rfl ⟨by decide, ⟨by decide, by decide⟩, trivial⟩
    exact TS.asgE (x := y) (TEv.sub tl ti (a0n (l := c2l s f) (n := n) (b := true) rfl (by decide : 8 <= 16777216) hy)) tx
  cases hb : decide ((0 : Int) < c.fmod 3) with
  | true =>
    refine ⟨_, put_no (s := s) (l := l) (a := a) hl my.1 my.2, body _ (TS.iteT (tape := []) (cs := [_]) rfl ⟨by decide, trivial⟩ hb (TS.retV (tape := [.lst ((a0a l).take a), .lst ((a0a l).drop a)]) rfl ⟨?_, TEq.sliceFrom rfl trivial rfl trivial rfl (by erw [a0b]; exact om167 ha) hl', ?_, TEq.sliceTo rfl trivial rfl trivial rfl (by erw [a0b]; exact om167 ha) hl', trivial⟩ rfl))⟩
    . erw [List.length_append, List.length_take, List.length_drop, a0b]; show min a l.length + 1 + _ <= _; exact om168 hl
    . erw [List.length_take, a0b]; show min a l.length + 1 <= _; exact om169 hl
  | false =>
    exact ⟨z, b8d l z (List.mem_of_getElem? hz), body _ (TS.ifF (tape := []) (cs := [_]) rfl ⟨by decide, trivial⟩ hb (TS.retV (tape := [.tup (a0a l), .dI [], z]) rfl ⟨em ▸ a0n (l := b1n l) (n := m) rfl (by decide : 7 <= 16777216) hz, by decide, ⟨by decide, by decide⟩, TEq.dct, TEq.tuple H.A.ok (TEq.v rfl) hl', trivial⟩ rfl))⟩
theorem all_map (l : List D) (p : D -> Bool) : l.map (fun x => D.bool (p x)) = (l.map p).map D.bool := by erw [List.map_map]; rfl
theorem b5l (H : HasB W) (R : OkR s w t) {x : D} (h : NoPiece s x) : Spec W (k + 4) "is_piece" [.d (a0k s w t), .d x] (.bool false) := by
  refine Spec.intro H.is_piece rfl (TS.exV (tape := [.none]) rfl ⟨a1b H.R R, trivial⟩ ?_)
  cases h with
  | other h1 h2 => exact TS.cons (TS1.ret (TE.and ((TEq.isiT H.R.ok (tape := []) (cs := []) rfl trivial rfl .list h1).to ⟨false, by erw [h2], rfl⟩)))
  | @sign l h1 h2 h3 =>
    have hf : (l.map fun x => a6l x 0 ((s : Int) - 1)).all id = false := Bool.eq_false_iff.mpr fun e => by
      refine xEA h3 fun y hy hn => ?_
      have := List.all_eq_true.mp e (a6l y 0 ((s : Int) - 1)) (List.mem_map.mpr ⟨y, hy, rfl⟩)
      rw [hn] at this; exact dFT this
    have ha := TEq.all (W := W) (k := k + 3) (σ := []) (ρ := [some (.d (a0k s w t)), some (.d (.lst l))]) (e := .comp (.call "is_among" [(.var 2), (.int 0), (.bin .Sub (.sub (.var 0) (.int 0)) (.int 1))]) 1 true (.var 1) none) H.R.ok (bs := l.map fun x => a6l x 0 ((s : Int) - 1)) (by
      erw [← all_map]
      exact TEq.compS _ (tape := []) (cs := []) rfl trivial rfl rfl (a1k h1) fun x hx => TEq.ev (tape := [.bool (a6l x 0 ((s : Int) - 1))]) rfl ⟨a9g H.R _ _ (h2 x hx), trivial⟩)
    rw [hf] at ha
    exact TS.retV (tape := [.bool true, .bool false]) rfl ⟨ha, TEq.isi H.R.ok rfl trivial rfl (.lst _), trivial⟩ rfl
theorem c9m (H : Has5 W) (R : OkR s w t) {x : D} (h : NoPiece s x) (m : Int) : FunR W (k + 5) "need_piece" [.d (a0k s w t), .d x, .d (.int m)] "BadRow" :=
  FunR.intro H.O.B.need_piece rfl (TX.cons (TX1.ite ((TCv.orT (TCv.ev (b := true) (tape := [.bool false]) (cs := [_]) rfl ⟨b5l H.O.B R h, trivial⟩)).to (show TX W (k + 4) _ _ _ _ _ from TX.cons (TX1.raise H.row)))))
theorem no3 (H : Has5 W) (R : OkR s w t) {f : String} {cf : CF} {rest : List CS} (hf : HasF W f cf) (hn : cf.nparams = 2) (hb : cf.body = .ex (.call "need_rule" [(.var 0)]) :: .ex (.call "need_piece" [(.var 0), (.var 1), (.int 0)]) :: rest) {x : D} (h : NoPiece s x) : FunR W (k + 6) f [.d (a0k s w t), .d x] "BadRow" := by
  refine FunR.intro hf hn.symm ?_
  erw [hb]
  exact TX.next (TS1.ex ((TEq.ev (tape := [.none]) (cs := [_]) rfl ⟨a1b H.O.B.R R, trivial⟩).to ⟨rfl, TX.cons (TX1.ex (EX.callV (tape := []) (cs := []) H.O.B.need_piece rfl trivial rfl rfl (c9m H R h _)))⟩))
theorem c5q {n : Nat} (H : Has5 W) (e : Addr) (m : Nat) (hm : 5 <= m) : TSH W n [.asg 4 (.or [(.isi (.var 3) "BadRule"), (.isi (.var 3) "TooWide"), (.isi (.var 3) "NoBack")]), .asg 4 (.or [(.var 4), (.isi (.var 3) "BadText")]), .ret (.and [(.isi (.var 3) "BadRow"), (.isi (.var 3) "ValueError"), (.not (.var 4))])] ((List.replicate m none).set 3 (some (.r 0))) e "BadRow" (.bool true) := by
  have hb : "BadRow" ∈ a2a := by simp [a2a]
  have h2 : ((List.replicate m none).set 3 (some (V.r 0)))[3]? = some (some (.r 0)) := by
    rw [List.getElem?_set_self (by rw [List.length_replicate]; exact om170 hm)]
  have h2' : ∀ v, (((List.replicate m none).set 3 (some (V.r 0))).set 4 v)[3]? = some (some (.r 0)) := fun v => by
    rw [List.getElem?_set_ne (by decide)]; exact h2
  have h3' : ∀ v, (((List.replicate m none).set 3 (some (V.r 0))).set 4 (some v))[4]? = some (some v) := fun v => by
    rw [List.getElem?_set_self (by rw [List.length_set, List.length_replicate]; exact om171 hm)]
  refine TSH.asg (a := .bool false) (TH.or (TH.isi H.L.ok h2 (y := "BadRule") (by simp [a2a]) hb) (TH.or (TH.isi H.L.ok h2 (y := "TooWide") (by simp [a2a]) hb) (TH.or1 (TH.isi H.L.ok h2 (y := "NoBack") (by simp [a2a]) hb)))) ?_
  refine TSH.asg (a := .bool false) (TH.or (TH.var (h3' _)) (TH.or1 (TH.isi H.L.ok (h2' _) (y := "BadText") (by simp [a2a]) hb))) ?_
  erw [List.set_set]
  exact TSH.ret (TH.and (TH.isi H.L.ok (h2' _) (y := "BadRow") hb hb) (TH.and (TH.isiV H.L.ok (h2' _)) (TH.and1 (TH.not (TH.var (h3' _))))))
theorem c5r (H : Has5 W) (R : OkR s w t) {x : D} {way : Nat} (hw : way = 0 ∨ way = 1 ∨ way = 2) (h : NoPiece s x) : FunD W (k + 7) "_law_refused" [.d (.int way), .d (a0k s w t), .d x] (.bool true) :=
  FunS.toD (FunS.intro (c := "BadRow") (n := 3) H.refused rfl rfl (by simp [a2a]) (TX.cons (TX1.ite (TC.ev (b := (way : Int) == 0) (tape := []) (cs := []) rfl trivial (by
    rcases hw with rfl | rfl | rfl
    . exact TX.cons (TX1.ex (EX.callV (tape := []) (cs := []) H.O.count_of rfl trivial rfl rfl (no3 H R H.O.count_of rfl rfl h)))
    . exact TX.cons (TX1.ite (TC.ev (b := true) (tape := []) (cs := []) rfl trivial (show TX W (k + 6) _ _ _ _ _ from TX.cons (TX1.ex (EX.callV (tape := []) (cs := []) H.O.origin_of rfl trivial rfl rfl (no3 H R H.O.origin_of rfl rfl h))))))
    . exact TX.cons (TX1.ite (TC.ev (b := false) (tape := []) (cs := []) rfl trivial (show TX W (k + 6) _ _ _ _ _ from TX.cons (TX1.ex (EX.callV (tape := []) (cs := []) H.O.ends_of rfl trivial rfl rfl (no3 H R H.O.ends_of rfl rfl h)))))))))) fun e m hm => c5q H e m (Nat.le_of_eq hm))
end
end Mine
end
section
open PySem PyProof.Rows PySem.SeqAt
namespace Mine
section
variable {W : World0} {k : Nat} {ρ : List (Option V)} {σ : List O} {Q : Out -> List (Option V) -> List O -> Prop} {ss : List CS}
theorem TSO.asgE {i : Nat} {e : CE} {x : D} (t : TEq W k e ρ σ x) (h : TSO W k ss (ρ.set i (some (.d x))) σ Q) (hn : a1v e = true := by rfl) : TSO W k (.asg i e :: ss) ρ σ Q :=
  TSO.cons (TS1O.asg (.of (t.to h)) hn)
theorem TSO.ifF {c : CE} {s : List CS} (t : TCv W k c ρ σ false) (h : TSO W k ss ρ σ Q) : TSO W k (.ite c s [] :: ss) ρ σ Q :=
  TSO.cons (TS1O.ite (.of (t.to (show TSO W k [] ρ σ _ from TSO.nil h))))
theorem TSO.iteC {c : CE} {s u : List CS} {b : Bool} (t : TCv W k c ρ σ b) (h1 : b = true -> TSO W k s ρ σ (thnO W k ss Q)) (h2 : b = false -> TSO W k u ρ σ (thnO W k ss Q)) : TSO W k (.ite c s u :: ss) ρ σ Q :=
  TSO.cons (TS1O.ite (.of (t.to (by cases b with | true => exact h1 rfl | false => exact h2 rfl))))
theorem TEO.and1 {a : CE} {Q : V -> List O -> Prop} (t : TEO W k a ρ σ Q) : TEO W k (.and [a]) ρ σ Q := fun names sc E he X hk hr hw ho Λ ad s S => by
  replace he := a4d he; obtain ⟨_, _, rfl, he⟩ := he
  replace he := a0g he; obtain ⟨_, _, rfl, he⟩ := he
  simp only [Bool.and_eq_true] at he
  have h2 := he.2
  replace h2 := a0p h2; obtain ⟨rfl, h2⟩ := h2
  exact BoolOp_one (t names sc _ he.1 X hk hr hw ho Λ ad s S)
theorem TEO.andT {a b : CE} {l : List CE} {Q : V -> List O -> Prop} (t : TEO W k a ρ σ fun v σ' => v = .d (.bool true) /\ TEO W k (.and (b :: l)) ρ σ' Q) : TEO W k (.and (a :: b :: l)) ρ σ Q := fun names sc E he X hk hr hw ho Λ ad s S => by
  replace he := a4d he; obtain ⟨_, _, rfl, he⟩ := he
  replace he := a0g he; obtain ⟨_, _, rfl, he⟩ := he
  simp only [Bool.and_eq_true] at he
  have h2 := he.2
  replace h2 := a0g h2; obtain ⟨_, _, rfl, h2⟩ := h2
  refine BoolOp_and (wpAny_mono (t names sc _ he.1 X hk hr hw ho Λ ad s S) (fun v s₁ h₁ => ?_) fun ζ ζ f => f)
  obtain ⟨val, σ₁, Λ₁, ad₁, S₁, P₁, r, rfl, q⟩ := h₁
  have d := r.dInv
  cases d
  refine wpAny_truthy_bool ?_
  exact wpAny_mono (q names sc _ (by exact he.2) X hk hr hw ho Λ₁ ad₁ s₁ S₁) (fun v s₂ h₂ => Post.trans P₁ h₂) fun ζ ζ f => f
variable {zs : List Int} {s w : Nat} {t l p q : List Nat}
noncomputable def rL5 (zs : List Int) (s w : Nat) (t : List Nat) (a : Nat) (p : List Nat) (x5 : Option V) : List (Option V) := [some (.a (.lst (zs.map .int))), some (.d (.int (a1o zs 0))), some (.d (a0k s w t)), some (.d (.int (a : Int))), some (.d (.lst (a0a p))), x5, none]
theorem fin5 (H : Has5 W) (R : OkR s w t) (hz : zs.length <= 1000) {a : Nat} (hp : p.length <= 6) (hq : q.length <= 900) (hs : ∀ x ∈ q, x < s) : TSO W (k + 8) (F_law5.body.drop 8) (rL5 zs s w t a p (some (.d (.lst (a0a q))))) [] fun out ζ ζ => out = .ret (.d (.bool true)) := by
  refine TSO.ifF (TCv.ev (b := false) (tape := [.bool true]) (cs := [_]) rfl ⟨long5 H R hq hs, trivial⟩) ?_
  obtain ⟨o, no, sp⟩ := c2m (k := k + 7) H R (l := p) (om172 hp) (mixZ (a1o zs 6) 3)
  refine TSO.asgE (TEq.ev (tape := [.int (a1o zs 6), .int (mixZ (a1o zs 6) 3), o]) (cs := [_, _, _]) rfl ⟨sp, a3n H.L _ (n := 3) (by decide), a4l H.L (n := 6) hz, trivial⟩) ?_
  have call : ∀ (way : Nat) {Q : V -> List O -> Prop}, (way = 0 ∨ way = 1 ∨ way = 2) -> Q (.d (.bool true)) [] -> TEO W (k + 8) (.call "_law_refused" [(.int (way : Int)), (.var 2), (.var 6)]) ((rL5 zs s w t a p (some (.d (.lst (a0a q))))).set 6 (some (.d o))) [] Q := fun way Q hw hQ =>
    TEO.callD H.refused (by intro h; exact dCN h) (TE.int (TE.var rfl (TE.var rfl ⟨⟨_, .cons (.d _) (.cons (.d _) (.cons (.d _) .nil)), c5r (k := k + 1) H R hw no⟩, hQ⟩)))
  exact TSO.cons (TS1O.ret (TEO.andT (call 0 (.inl rfl) ⟨rfl, TEO.andT (call 1 (.inr (.inl rfl)) ⟨rfl, TEO.and1 (call 2 (.inr (.inr rfl)) rfl)⟩)⟩)))
theorem rest5 (H : Has5 W) (R : OkR s w t) (hz : zs.length <= 1000) {a : Nat} (hp : p.length <= 6) (hs : ∀ x ∈ p, x < s) : TSO W (k + 8) (F_law5.body.drop 5) (rL5 zs s w t a p none) [] fun out ζ ζ => out = .ret (.d (.bool true)) := by
  have C : ∀ (n : Nat), Spec W (k + 8) "_law_cell_at" [.a (.lst (zs.map .int)), .d (.int n)] (.int (a1o zs n)) := fun n => a4l H.L hz
  have w1 := R.w1
  have w4 := R.w4
  refine TSO.ifF (TCv.ev (b := false) (tape := [.bool true]) (cs := [_]) rfl ⟨short5 H R hp hs, trivial⟩) ?_
  obtain ⟨b, hb, eb⟩ : ∃ a : Nat, a < 41 /\ (a1o zs 5).fmod 41 = (a : Int) := a1j (a1o zs 5) (b := 41) (by decide)
  obtain ⟨_, ⟨l, l1, l2, rfl⟩, sp⟩ := a3j (k := k + 6) H.O.B H.L R (a1o zs 4) (n := b) (om173 hb)
  refine TSO.asgE (TEq.ev (tape := [.int (a1o zs 4), .int (a1o zs 5), .lst (a0a l)]) (cs := [_, _, _, _]) rfl ⟨eb ▸ sp, by decide, C 5, C 4, trivial⟩) ?_
  refine TSO.iteC (b := decide ((0 : Int) < ((a1o zs 5).fdiv 41).fmod 3)) (TCv.ev (tape := [.int (a1o zs 5)]) (cs := [_, _, _]) rfl ⟨by decide, ⟨by decide, by decide⟩, C 5, trivial⟩) (fun ζ => ?_) (fun ζ => TSO.nil (fin5 H R hz hp (om174 l1 hb) l2))
  have ez : (List.replicate ((w : Int)).toNat [D.int 0]).flatten = a0a (List.replicate w 0) := by erw [Int.toNat_natCast]; exact b1h w 0
  have hs0 : 0 < s := Nat.lt_of_lt_of_le (by decide) R.s2
  have ea : a0a l ++ a0a (List.replicate w 0) = a0a (l ++ List.replicate w 0) := by unfold a0a; erw [List.map_append]
  have hl2 : (l ++ List.replicate w 0).length = b + w := by erw [List.length_append, List.length_replicate, l1]
  have hlt : ∀ x ∈ l ++ List.replicate w 0, x < s := fun x hx => by
    rcases List.mem_append.mp hx with hx | hx
    . exact l2 x hx
    . erw [List.eq_of_mem_replicate hx]; exact hs0
  have tm : TEq W (k + 8) (.bin .Mult (.lst [(.int 0)]) (.sub (.var 2) (.int 1))) (rL5 zs s w t a p (some (.d (.lst (a0a l))))) [] (.lst (a0a (List.replicate w 0))) := ez ▸ TEv.bin (TEv.ev (tape := []) (cs := []) rfl trivial) (TEv.ev (tape := []) (cs := []) rfl trivial) (.mulL (va := .d (.lst [.int 0])) rfl rfl (by omega) (by omega) (by erw [Int.toNat_natCast]; show 1 * w <= _; exact om175 w4))
  have ta : TEq W (k + 8) (.bin .Add (.var 5) (.bin .Mult (.lst [(.int 0)]) (.sub (.var 2) (.int 1)))) (rL5 zs s w t a p (some (.d (.lst (a0a l))))) [] (.lst (a0a (l ++ List.replicate w 0))) := ea ▸ TEq.addL (TEq.v rfl) tm (by erw [a0b, a0b, List.length_replicate]; exact om176 l1 w4 hb)
  refine TSO.asgE (TEv.call (by intro h; exact dCN h) (TEsv.cons (TE.var rfl ⟨rfl, rfl⟩) (TEsv.cons ta ⟨rfl, rfl⟩)) (.cons (.d _) (.cons (.d _) .nil)) ((c2k (k := k + 6) H R (om177 hl2 hb w4) hlt (om178 hl2)).own (.same (.own .nil)))) (TSO.nil ?_)
  exact fin5 H R hz hp (by erw [c1f]; exact om179 hl2 hb) (c6r R hlt)
theorem law5 (H : Has5 W) (hl : zs.length <= 63) : TSO W (k + 8) F_law5.body [some (.a (.lst (zs.map .int))), none, none, none, none, none, none] [] fun out ζ ζ => out = .ret (.d (.bool true)) := by
  have hz : zs.length <= 1000 := Nat.le_trans hl (by decide)
  have C : ∀ (n : Nat), Spec W (k + 8) "_law_cell_at" [.a (.lst (zs.map .int)), .d (.int n)] (.int (a1o zs n)) := fun n => a4l H.L hz
  obtain ⟨_, ⟨s, w, t, R, rfl⟩, sp⟩ := c0n (k := k + 5) H.L (a1o zs 0) (a1o zs 1)
  have w1 := R.w1
  have w4 := R.w4
  obtain ⟨n, hn, en⟩ : ∃ n : Nat, n < 8 /\ (a1o zs 0).fmod 8 = (n : Int) := a1j (a1o zs 0) (b := 8) (by decide)
  obtain ⟨m, hm, m1, m7⟩ : ∃ m : Nat, (a0a [7, 7, 5, 4, 7, 5, 5, 4])[n]? = some (.int (m : Int)) /\ 1 <= m /\ m <= 7 := by
    obtain ⟨m, hm⟩ : ∃ m, [7, 7, 5, 4, 7, 5, 5, 4][n]? = some m := ⟨_, List.getElem?_eq_getElem hn⟩
    have h2 : ∀ m ∈ [7, 7, 5, 4, 7, 5, 5, 4], 1 <= m /\ m <= 7 := by decide
    exact ⟨m, a2l hm, h2 m (List.mem_of_getElem? hm)⟩
  obtain ⟨a, ha, ea⟩ : ∃ a : Nat, a < m /\ (a1o zs 2).fmod (m : Int) = (a : Int) := a1j (a1o zs 2) (b := m) m1
  refine TSO.asgE (TEq.ev (tape := [.int (a1o zs 0)]) (cs := [_]) rfl ⟨C 0, trivial⟩) ?_
  refine TSO.asgE (TEq.ev (tape := [.int (a1o zs 1), a0k s w t]) (cs := [_, _]) rfl ⟨sp, C 1, trivial⟩) ?_
  refine TSO.asgE (x := .int (a : Int)) (ea ▸ TEq.ev (tape := [.int (a1o zs 2), .int (m : Int)]) (cs := [_, _, _, _]) rfl ⟨by exact om180 m1, en ▸ a0n (b := true) (l := a0a [7, 7, 5, 4, 7, 5, 5, 4]) (n := n) rfl (by decide : 8 <= 16777216) hm, by decide, C 2, trivial⟩) ?_
  obtain ⟨_, ⟨l, l1, l2, rfl⟩, sp1⟩ := a3j (k := k + 6) H.O.B H.L R (a1o zs 3) (n := a) (om181 ha m7)
  obtain ⟨_, ⟨q, q1, q2, rfl⟩, sp2⟩ := a3j (k := k + 6) H.O.B H.L R (a1o zs 3) (n := a + w - 1) (om182 ha w4 m7)
  refine TSO.asgE (TEq.ev (tape := [.int (a1o zs 3), .lst (a0a l)]) (cs := [_, _]) rfl ⟨sp1, C 3, trivial⟩) ?_
  refine TSO.iteC (b := ((a1o zs 2).fdiv 7).fmod 2 == 1) (TCv.ev (tape := [.int (a1o zs 2)]) (cs := [_, _, _]) rfl ⟨by decide, ⟨by decide, by decide⟩, C 2, trivial⟩) (fun ζ => ?_) (fun ζ => TSO.nil (rest5 H R hz (om183 l1 ha m7) l2))
  have ew : ((a + w - 1 : Nat) : Int) = ((a : Int) + (w : Int)) - 1 := by exact om184 w1
  rw [ew] at sp2
  refine TSO.asgE (TEq.ev (tape := [.int (a1o zs 3), .lst (a0a q), .lst (a0a (onL s w t q))]) (cs := [_, _, _]) rfl ⟨(c2k (k := k + 6) H R (om185 q1 ha w4 m7) q2 (om186 q1)).own (.same (.own .nil)), sp2, C 3, trivial⟩) (TSO.nil ?_)
  exact rest5 H R hz (by erw [c1f]; exact om187 q1 ha m7) (c6r R q2)
end
end Mine
end
section
open PySem PySem.W PyProof.Rows
namespace Mine
theorem c2n {R : WRecords} {xs : List WData} (h : WShape.hasItems R xs .int = true) : ∃ zs : List Int, xs = zs.map WData.int := by
  induction xs with
  | nil => exact ⟨[], rfl⟩
  | cons x xs ih =>
    have h := Bool.and_eq_true_iff.mp h
    obtain ⟨i, rfl⟩ := hasW_int h.1
    obtain ⟨zs, rfl⟩ := ih h.2
    exact ⟨i :: zs, rfl⟩
theorem c5s {l : OpenLaw} (h63 : l.most = some 63) {args : List WData} (hpre : l.row.toRowW.claim.pre args = true) : ∃ zs : List Int, args = [.list (zs.map .int)] /\ zs.length <= 63 := by
  obtain ⟨h1, h2⟩ := pre_splitW hpre
  have h1 : WShape.hasAll [] args [.list .int] = true := h1
  obtain ⟨d, r, rfl, hd, hr⟩ := hasAllW_cons h1
  have := hasAllW_nil hr
  subst this
  obtain ⟨xs, rfl, hx⟩ := hasW_list hd
  obtain ⟨zs, rfl⟩ := c2n hx
  refine ⟨zs, rfl, ?_⟩
  have h2 : l.pre.holds [] { args := [.list (zs.map .int)] } = true := h2
  unfold OpenLaw.pre at h2
  rw [h63] at h2
  have h3 := (holds_andW h2).1
  simp [WTm.holds, WTm.value] at h3
  have e : less? (WData.int 63) (WData.int (zs.length : Int)) = some (decide ((63 : Int) < (zs.length : Int))) := by
    first | rfl | simp [less?] | (unfold less?; simp)
  rw [e] at h3
  by_cases hlt : (63 : Int) < (zs.length : Int)
  . rw [decide_eq_true hlt] at h3; exact dFT h3
  . omega
end Mine
end
section
open PySem PySem.W PyProof.Rows
namespace Mine
theorem c2o {P : Params} {h : Heap} {gl : Str -> Option Value} {G : Addr -> Prop} {vs : List Value} {zs : List Int} (x : WellAll P h vs (zs.map WData.int)) : DRels gl h G vs (zs.map D.int) := by
  induction zs generalizing vs with
  | nil => cases x; exact .nil
  | cons z zs ih =>
    cases x with
    | cons a b => cases a; exact .cons (.int _ _) (ih b)
theorem c5t (l : OpenLaw) (args : List WData) : l.row.toRowW.claim.post args (.bool true) args = true := by
  show (WShape.has [] (.bool true) .bool && (WTm.eq .res (.lit (.bool true))).holds [] { args := args, res := some (.bool true), after := args }) = true
  erw [Bool.and_eq_true]
  exact ⟨by decide +kernel, by simp [WTm.holds, WTm.value, same]⟩
theorem has_of {W : World0} {q : Program} (hq : W.q = q) {f : String} {F : CF} (h : ((recsOf q).any fun d => d.name == Str.ofString f && isF F d) = true) : HasF W f F := by
  refine xEA (List.any_eq_true.mp h) fun d hd h => ?_
  rw [Bool.and_eq_true] at h
  exact ⟨d, by erw [hq]; exact hd, beq_iff_eq.mp h.1, h.2⟩
theorem a0h {W : World0} {q : Program} (hq : W.q = q) {l : List (String × CF)} (h : b5s q l = true) {f : String} {F : CF} (i : Nat) (hm : l[i]? = some (f, F)) : HasF W f F :=
  has_of hq (List.all_eq_true.mp h (f, F) (List.mem_of_getElem? hm))
set_option tactic.hygienic true in
theorem b1o {W : World0} {q : Program} (hq : W.q = q) {l : List (String × Int)} (h : b0j q l = true) {f : String} {F : Int} (i : Nat) (hm : l[i]? = some (f, F)) : HasC W f F := by
  have h := List.all_eq_true.mp h (f, F) (List.mem_of_getElem? hm)
  unfold HasC
  erw [hq]
  dsimp only at h
  split at h
  . rename_i e; erw [e, beq_iff_eq.mp h]
  . exact dFT h
end Mine
end
open PySem PySem.W PyProof.Rows
namespace Mine
theorem law_endX {l : OpenLaw} (h63 : l.most = some 63) {q : Program} {loose : List Str} {R : WRecords} {XP : (Str -> Option Value) -> Heap -> Prop} {w : World} {s₀ s₁ : Shared} {mg mb : Str -> Option Value} (G : Ground q loose R XP w s₀ mg mb s₁.heap) (Y : xOk s₁.heap = true) {fa : Addr} (hmg : mg (Str.ofString "law") = some (.ref fa)) (hg : s₁.gens = #[])
    {args : List WData} {vals : List Value} (hpre : l.row.toRowW.claim.pre args = true) (hwl : WellAll w.params s₁.heap vals args) {K : Nat} (hK : Room callerA (K + 1)) (hfree : c6d q (looseW q loose) = true)
    (hlaw : ∀ W : World0, W.q = q -> WOk W -> HasX W "RowError" /\ (∀ x ∈ a2a, HasX W x) /\ HasF W "law" F_law5 /\ ∀ zs : List Int, zs.length <= 63 -> TSO W K F_law5.body [some (.a (.lst (zs.map .int))), none, none, none, none, none, none] [] fun out ζ ζ => out = .ret (.d (.bool true))) :
    wpAny (model l.row.prog w) callerA (PySem.call (.ref fa) vals) (fun v s' => GoodWG l.row.toRowW.claim (classAt s₀.heap) (ExcName.means s₀.heap) args s₁ (.ok (.ret v)) s')
      (fun e s' => GoodWG l.row.toRowW.claim (classAt s₀.heap) (ExcName.means s₀.heap) args s₁ (.error e) s') s₁ := by
  obtain ⟨zs, rfl, hz⟩ := c5s h63 hpre
  cases hwl with
  | cons hw1 hw2 =>
    cases hw2
    cases hw1 with
    | list ha hitems =>
      let W : World0 := { p := l.row.prog, q := q, w := w, loose := looseW q loose, mean := ExcName.means s₀.heap, gl := mg, mb := mb }
      have hok : WOk W := ⟨fun x hx => by
        have h := List.all_eq_true.mp hfree x hx
        simp only [Bool.and_eq_true, Bool.not_eq_true', List.contains_eq_mem, decide_eq_false_iff_not] at h
        exact G.T.free _ h.1.1.1.1 h.1.1.1.2 h.1.1.2 h.1.2 h.2⟩
      refine xAAA (hlaw W rfl hok) fun x1 x2 hf F => ?_
      refine wpAny_mono (c4m (W := W) (Φ := noL) (b := true) hf rfl (F zs hz) hK rfl G.T (xw_of (W := W) G.T x1 x2 Y) (fun a h => h.elim) (.cons (.a (.lst (n := 0) ha (fun h => h) (c2o hitems))) .nil) hmg) (fun v s' h => ?_) fun ζ ζ f => f.elim
      obtain ⟨rfl, h1, h2, h3⟩ := h
      exact GoodW.toG ⟨.inl ⟨.bool true, .bool true, [], rfl, fun ζ => rfl, .bool true, c5t l _, fun ζ => ⟨List.nodup_nil, fun a h => absurd h (List.not_mem_nil)⟩⟩, h1, h2, h3.trans hg⟩
theorem h5_of {W : World0} {q : Program} (hq : W.q = q) (hok : WOk W) (hb : HasX W "BadRow") (h : b5s q c6z = true) (hc : b0j q c7a = true) : Has5 W :=
  have hR : HasR W := { ok := hok, is_among := a0h hq h 0 rfl, rows_of := a0h hq h 1 rfl, is_rule := a0h hq h 2 rfl, need_rule := a0h hq h 3 rfl, c1 := b1o hq hc 0 rfl, c2 := b1o hq hc 1 rfl, c3 := b1o hq hc 2 rfl }
  { O := { G := { S := { R := hR, many_ends := a0h hq h 9 rfl, told_by := a0h hq h 10 rfl, onward := a0h hq h 11 rfl }, ends_behind := a0h hq h 12 rfl }
           B := { R := hR, number_of := a0h hq h 4 rfl, is_piece := a0h hq h 5 rfl, need_piece := a0h hq h 6 rfl, sign_of := a0h hq h 7 rfl, piece_on := a0h hq h 8 rfl, lpiece := a0h hq h 26 rfl }
           ends_of := a0h hq h 13 rfl, count_of := a0h hq h 14 rfl, leads := a0h hq h 15 rfl, cells_of := a0h hq h 16 rfl, origin_of := a0h hq h 17 rfl }
    L := { ok := hok, cell_at := a0h hq h 18 rfl, mixed := a0h hq h 19 rfl, random := a0h hq h 20 rfl, mending := a0h hq h 21 rfl, between := a0h hq h 22 rfl, beside := a0h hq h 23 rfl, turned := a0h hq h 24 rfl, rule := a0h hq h 25 rfl }
    A := { ok := hok, lsign := a0h hq h 27 rfl, rows := a0h hq h 28 rfl, origins := a0h hq h 29 rfl, number := a0h hq h 30 rfl }
    lon := a0h hq h 31 rfl, many := a0h hq h 32 rfl, steps := a0h hq h 33 rfl, further := a0h hq h 34 rfl, whole := a0h hq h 35 rfl, ends_right := a0h hq h 36 rfl, short := a0h hq h 37 rfl, long := a0h hq h 38 rfl, odd := a0h hq h 39 rfl, refused := a0h hq h 40 rfl, law := a0h hq h 41 rfl
    row := hb }
set_option tactic.hygienic true in
theorem x_all {W : World0} {q : Program} (hq : W.q = q) (h : xHas q = true) : ∀ x ∈ "RowError" :: subX, HasX W x := fun x hx => by
  have h := List.all_eq_true.mp h x hx
  unfold HasX
  erw [hq]
  split at h
  . rename_i a b e
    rw [Bool.and_eq_true, beq_iff_eq, beq_iff_eq] at h
    erw [e, h.1, h.2]
  . exact dFT h
theorem law5_fun {W : World0} {q : Program} (hq : W.q = q) (hok : WOk W) (hx : xHas q = true) (h : b5s q c6z = true) (hc : b0j q c7a = true) : HasX W "RowError" /\ (∀ x ∈ a2a, HasX W x) /\ HasF W "law" F_law5 /\ ∀ zs : List Int, zs.length <= 63 -> TSO W 8 F_law5.body [some (.a (.lst (zs.map .int))), none, none, none, none, none, none] [] fun out ζ ζ => out = .ret (.d (.bool true)) :=
  have x := x_all hq hx
  have H := h5_of hq hok (x _ (by decide)) h hc
  ⟨x _ (.head _), fun y hy => x y (.tail _ hy), H.law, fun zs hl => law5 (k := 0) H hl⟩
end Mine
set_option tactic.hygienic true in
theorem PySem.Challenge.cw_uf020003_05_holds : PySem.Challenge.rw_uf020003_05.Holds := by
  refine Mine.head5 fun q R XP w s₀ s₁ mg mb hq G Y fa hmg hg args vals hpre hwl => ?_
  have h := Bool.and_eq_true_iff.mp hq
  have h' := Bool.and_eq_true_iff.mp h.1
  have h2 := Bool.and_eq_true_iff.mp h'.1
  exact Mine.law_endX rfl G Y hmg hg hpre hwl (K := 8) ⟨rfl, by decide, by decide⟩ h2.1 (fun W hq hok => Mine.law5_fun hq hok h2.2 h'.2 h.2)
